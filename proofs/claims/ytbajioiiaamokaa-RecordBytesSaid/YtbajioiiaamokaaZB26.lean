/- LwDe2, pruned (slim.py). -/
import Derived.Test.YtbajioiiaamokaaZB24
import Derived.Test.YtbajioiiaamokaaZB25
namespace Go.Proofs.Ytbajioiiaamokaa.Own
open Go.RowKit Go.Proofs.Ytbajioiiaamokaa.Arr Go.Proofs.Ytbajioiiaamokaa.QB Go.Proofs.YtbajioiiaamokaaW.PrintWords Go.Proofs.YtbajioiiaamokaaW.PrintLast Go.Proofs.YtbajioiiaamokaaW.PrintMore Go.Proofs.Ytbajioiiaamokaa.Opn
set_option linter.unusedVariables false
set_option linter.unusedSimpArgs false
theorem C_take {w:World} {A:Option Addr} {n:Nat} {xs:List Int} (h:Kd.C (Kd.int .u8) w A n xs) (m:Nat) (hm:m≤n):Kd.C (Kd.int .u8) w A m (xs.take m):=by
 obtain ⟨h1,h2,h3⟩:=h
 refine ⟨by rw[List.length_take];omega,by omega,fun hp=>?_⟩
 obtain ⟨ad,e,hc⟩:=h3 (by omega)
 refine ⟨ad,e,fun j p hj=>hc j p ?_⟩
 rw[List.getElem?_take] at hj
 split at hj
 ·exact hj
 cases hj
theorem Keys96 (A0:Option Addr) (c0:Nat) (pass:List Int) (A1:Option Addr) (c1:Nat) (salt:List Int) (hc0:pass.length≤c0) (hc1:salt.length≤c1) (hlen:salt.length≤100000000) (r:Int) (h:rightB pass.length r=true) (D:List Int) (hD:D=bytesD (blockL pass) salt r.toNat 96) (w:World) (hr0:Kd.C (Kd.int .u8) w A0 pass.length pass) (hr1:Kd.C (Kd.int .u8) w A1 salt.length salt) :
  Calls Try.prog 68 #[.slice A0 pass.length c0,.slice A1 salt.length c1,.int .i64 r] w fun e w'=>∃ X1 d1 X2 d2 X3 d3,e=.returned (.tuple #[.slice X1 32 d1,.slice X2 32 d2,.slice X3 32 d3,.int .i64 0])∧32≤d1∧32≤d2∧32≤d3∧Kd.C (Kd.int .u8) w' X1 32 ((D.drop 0).take 32)∧Kd.C (Kd.int .u8) w' X2 32 ((D.drop 32).take 32)∧Kd.C (Kd.int .u8) w' X3 32 ((D.drop 64).take 32)∧Below w.heap.size w w':=by
 have hDl:=bytesD_length (blockL pass) salt r.toNat 96 (by decide)
 have hk:=dKeys_ok A0 c0 pass w hr0 hc0 A1 c1 salt hr1 hc1 hlen r h
 rw[← hD] at hk hDl
 refine hk.mono ?_
 rintro e w' ⟨v1,v2,v3,rfl,⟨X1,d1,e1,k1,C1,_⟩,⟨X2,d2,e2,k2,C2,_⟩,⟨X3,d3,e3,k3,C3,_⟩,hb⟩
 have l1:(D.take 32).length=32:=by rw[List.length_take];omega
 have l2:((D.drop 32).take 32).length=32:=by rw[List.length_take,List.length_drop];omega
 have l3:(D.drop 64).length=32:=by rw[List.length_drop];omega
 rw[l1] at e1 k1 C1
 rw[l2] at e2 k2 C2
 rw[l3] at e3 k3 C3
 subst e1 e2 e3
 exact ⟨X1,d1,X2,d2,X3,d3,rfl,k1,k2,k3,by rw[List.drop_zero];exact C1,C2,by rw[List.take_of_length_le (by omega)];exact C3,hb⟩
end Go.Proofs.Ytbajioiiaamokaa.Own
