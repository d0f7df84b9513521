/- LwDer, pruned (slim.py). -/
import Derived.Test.YtbajioiiaamokaaZF27
import Derived.Test.YtbajioiiaamokaaZF28
namespace Go.Proofs.Ytbajioiiaamokaa.Own
open Go.RowKit Go.Proofs.Ytbajioiiaamokaa.Arr Go.Proofs.Ytbajioiiaamokaa.QB Go.Proofs.YtbajioiiaamokaaW.PrintWords Go.Proofs.YtbajioiiaamokaaW.PrintLast Go.Proofs.YtbajioiiaamokaaW.PrintMore Go.Proofs.Ytbajioiiaamokaa.Opn
set_option linter.unusedVariables false
set_option linter.unusedSimpArgs false
theorem rRight_any (pass:List Int) (r:Int) (b:Bool) (hb:rightB pass.length r=b) (A0:Option Addr) (c0:Nat) (w1:World) (hC0:Kd.C (Kd.int .u8) w1 A0 pass.length pass) (hc0:pass.length≤c0) :
  Calls Try.prog 37 #[.slice A0 pass.length c0,.int .i64 r] w1 fun e w'=>e=.returned (.bool b)∧Drawn0 w1 w':=
 nepentheref04_Right.calls A0 c0 pass r b w1 hC0 hc0 (by rw[refRight_eq,hb])
theorem rBytes_any (pass salt:List Int) (hp:∀ x ∈ pass,byt x) (hs:∀ x ∈ salt,byt x) (hpl:pass.length≤900) (hsl:salt.length≤900) (r:Int) (hr1:1≤r) (hr:r≤1000) (n:Nat) (hn:n≤1024) (A0:Option Addr) (c0:Nat) (A1:Option Addr) (c1:Nat) (w1:World) (hC0:Kd.C (Kd.int .u8) w1 A0 pass.length pass) (hc0:pass.length≤c0) (hC1:Kd.C (Kd.int .u8) w1 A1 salt.length salt) (hc1:salt.length≤c1) :
  Calls Try.prog 38 #[.slice A0 pass.length c0,.slice A1 salt.length c1,.int .i64 r,.int .i64 n] w1 fun e w'=>∃ v,e=.returned v∧Fr w' w1.heap.size v (bytesD (blockL pass) salt r.toNat n)∧Below w1.heap.size w1 w':=by
 obtain ⟨m,rfl⟩:=Int.eq_ofNat_of_zero_le (show 0≤r by omega)
 rw[Int.toNat_natCast]
 obtain ⟨k,hk⟩:=refDBytes_at pass salt hp hs hpl hsl m (by omega) (by omega) n hn
 exact (nepentheref04_Bytes.calls k A0 c0 pass A1 c1 salt m n _ w1 hC0 hc0 hC1 hc1 hk).mono fun e w' ⟨v,h1,h2,h3⟩=>⟨v,h1,Fr.of_R h2,h3⟩
end Go.Proofs.Ytbajioiiaamokaa.Own
