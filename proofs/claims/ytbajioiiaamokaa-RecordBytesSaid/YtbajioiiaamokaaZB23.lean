/- Mb3, pruned (slim.py). -/
import Derived.Test.YtbajioiiaamokaaZB22
namespace Go.Proofs.Ytbajioiiaamokaa.Own
open Go.RowKit Go.Proofs.Ytbajioiiaamokaa.Arr Go.Proofs.Ytbajioiiaamokaa.QB Go.Proofs.YtbajioiiaamokaaW.PrintWords Go.Proofs.YtbajioiiaamokaaW.PrintLast Go.Proofs.YtbajioiiaamokaaW.PrintMore
set_option linter.unusedVariables false
set_option linter.unusedSimpArgs false
def Fr (w:World) (base:Nat) (v:Value) (l:List Int):Prop:=∃ A c,v=.slice A l.length c∧l.length≤c∧Kd.C (Kd.int .u8) w A l.length l∧∀ ad,A=some ad→base≤ad.block
theorem Fr.below {w w':World} {base:Nat} {v:Value} {l:List Int} (h:Fr w base v l) (hb:Below w.heap.size w w'):Fr w' base v l:=by
 obtain ⟨A,c,h1,h2,h3,h4⟩:=h
 exact ⟨A,c,h1,h2,Kd.C_below h3 hb,h4⟩
def rightB (n:Nat) (r:Int):Bool:=if n≤64 then if 1≤r then decide (r≤1000) else false else false
theorem right_eq (l:List Int) (r:Int):derive_right.f l r=some (rightB l.length r):=by
 unfold derive_right.f rightB
 by_cases h1:l.length≤64
 ·rw[if_pos (by omega),if_pos h1]
  by_cases h2:1≤r
  ·rw[if_pos (by omega),if_pos h2]
  rw[if_neg (by omega),if_neg h2]
 rw[if_neg (by omega),if_neg h1]
theorem right_of {n:Nat} {r:Int} (h:rightB n r=true):n≤64∧1≤r∧r≤1000:=by
 unfold rightB at h
 split at h
 ·split at h
  ·exact ⟨by assumption,by assumption,of_decide_eq_true h⟩
  cases h
 cases h
def blocksD (B salt:List Int) (r:Nat):Nat→List Int
 |0=>[]
 |k+1=>blocksD B salt r k++blockD B salt r ((k:Int)+1)
theorem blocksD_length (B salt:List Int) (r k:Nat):(blocksD B salt r k).length=32*k:=by
 induction k with
 |zero=>rfl
 |succ k ih=>rw[blocksD,List.length_append,ih,blockD_length];omega
theorem blocksD_take (B salt:List Int) (r n k d:Nat) (h:n≤32*k):(blocksD B salt r (k+d)).take n=(blocksD B salt r k).take n:=by
 induction d with
 |zero=>rfl
 |succ d ih=>rw[← Nat.add_assoc,blocksD,List.take_append_of_le_length (by rw[blocksD_length];omega),ih]
def bytesD (B salt:List Int) (r n:Nat):List Int:=(blocksD B salt r 32).take n
theorem bytesD_of (B salt:List Int) (r n k:Nat) (h:n≤32*k) (hk:k≤32):(blocksD B salt r k).take n=bytesD B salt r n:=by
 have:=blocksD_take B salt r n k (32 - k) h
 rw[show k+(32 - k)=32 from by omega] at this
 exact this.symm
theorem bytesD_length (B salt:List Int) (r n:Nat) (h:n≤1024):(bytesD B salt r n).length=n:=by
 rw[bytesD,List.length_take,blocksD_length];omega
set_option maxHeartbeats 4000000 in
set_option maxRecDepth 100000 in
theorem dBytes_ok (A0:Option Addr) (c0:Nat) (pass:List Int) (w:World) (hr0:Kd.C (Kd.int .u8) w A0 pass.length pass) (hc0:pass.length≤c0) (A1:Option Addr) (c1:Nat) (salt:List Int) (hr1:Kd.C (Kd.int .u8) w A1 salt.length salt) (hc1:salt.length≤c1) (hlen:salt.length≤100000000) (r:Int) (n:Nat) (h:rightB pass.length r=true) (hn:n≤1024) :
  Calls Try.prog 83 #[.slice A0 pass.length c0,.slice A1 salt.length c1,.int .i64 r,.int .i64 n] w fun e w'=>∃ v,e=.returned (.tuple #[v,.int .i64 0])∧Fr w' w.heap.size v (bytesD (blockL pass) salt r.toNat n)∧Below w.heap.size w w':=by
 have hri:=derive_right.calls A0 c0 pass r _ w hr0 hc0 (right_eq pass r)
 rw[h] at hri
 obtain ⟨hp,hr_1,hr_2⟩:=right_of h
 obtain ⟨m,rfl⟩:=Int.eq_ofNat_of_zero_le (show 0≤r by omega)
 rw[Int.toNat_natCast]
 have hnew:=fun w1 hC=>newKey_any A0 c0 pass w1 hC (by omega)
 have hbl:=fun (w1:World) (g:Nat) (B:List Int) (hk:KeyAt w1 g B) (hC:Kd.C (Kd.int .u8) w1 A1 salt.length salt) (i:Int) (h1:0≤i) (h2:i≤1000)=>dblock_any w1 g B hk A1 c1 salt hC hc1 hlen m (by omega) (by omega) i h1 h2
 obtain ⟨B,hB⟩:∃ B,B=blockL pass:=⟨_,rfl⟩
 rw[← hB] at hnew ⊢
 have hri':=Lib.hid hri
 have hnew':=Lib.hid hnew
 have hbl':=Lib.hid hbl
 have hr0':=Lib.hid hr0
 have hr1':=Lib.hid hr1
 clear hri hnew hbl hr0 hr1 h hB hc0 hc1 hlen hp hr_1 hr_2
 go_enter Try.func83,Try.ntmps83
 go_wp2_with (first
  |(go_at_call 93;refine hri'.out.mono ?_;rintro e w1 ⟨rfl,hd⟩;have hd1:=Lib.hid hd.below;clear hd)
  |(go_at_call 70;refine (hnew'.out _ (Kd.C_below hr0'.out hd1.out)).mono ?_;rintro e w2 ⟨g,rfl,hg,hk,hb⟩;have hk2:=Lib.hid hk;have hb2:=Lib.hid (below_step hd1.out hb);clear hg hk hb))
 go_loopw [11,12] (fun v i wr=>∃ k:Nat,k≤32∧i=.int .i64 (k+1:Nat)∧Kd.R (Kd.int .u8) 5 wr w2.heap.size (fun _=>True) v (blocksD B salt m k)∧Below w2.heap.size w2 wr) (fun _ i _=>40 - (intOf i).toNat)
 case atStart=>exact ⟨0,Nat.zero_le _,rfl,Kd.R_nil _ _ _ _ _,Below.refl _ _⟩
 case round=>
  obtain ⟨k,hk,rfl,hR,hb⟩:=hrel
  have hl:=blocksD_length B salt m k
  have hR':=Lib.hid hR
  obtain ⟨Av,cv,rfl⟩:=Kd.R_slice hR
  have hcv:=(Kd.R_reads' hR).2.1
  have hb':=Lib.hid hb
  have hnx:blocksD B salt m (k+1)=blocksD B salt m k++blockD B salt m ((k:Int)+1):=rfl
  have hnx':=Lib.hid hnx
  have htk:=bytesD_of B salt m n k
  have hbl32:=blockD_length B salt m ((k:Int)+1)
  obtain ⟨X,hX⟩:∃ X,X=blocksD B salt m k:=⟨_,rfl⟩
  obtain ⟨Y,hY⟩:∃ Y,Y=blockD B salt m ((k:Int)+1):=⟨_,rfl⟩
  rw[← hX] at hl hR' hcv hnx' htk ⊢
  rw[← hY] at hnx' hbl32
  have htk':=Lib.hid htk
  have hbl32':=Lib.hid hbl32
  have hY':=Lib.hid hY
  have hlX:=Lib.hid hl
  clear hX hR hb hnx hl htk hbl32 hY hd1
  by_cases hlt:X.length<n
  ·have hX1:=Lib.hid (show X.length≤1024 by omega)
   go_wp2_with (first
    |(go_at_call 94;refine (hbl'.out _ g B (hk2.out.below hb'.out) (Kd.C_below hr1'.out (hb2.out.trans (hb'.out.mono hb2.out.size))) _ (by omega) (by omega)).mono ?_;rw[← hY'.out];rintro e w3 ⟨v3,rfl,hR,hb⟩;obtain ⟨Ay,cy,rfl⟩:=Kd.R_slice hR;have hC3:=Lib.hid (Kd.R_reads' hR).2.2;have hb3:=Lib.hid (below_step hb'.out hb);have hR3:=Lib.hid (Kd.R_below hR'.out hb);clear hR hb)
    |(at_builtin;refine Kd.R_append_rows (Kd.int .u8) (w0:=w2) w2.heap.size rfl (.tmp 33) (.tmp 38) 23 5 (.int .u8 0) 1 rfl Try.underlying23 info5 rfl (by decide) (by omega) (.slice Av X.length cv) X Y _ _ _ (fun _=>True) (fun _=>False) rfl rfl hR3.out hC3.out (fun _ _ h=>h) (fun _ h=>h.elim) (fun _ _=>trivial) hb3.out hb3.out.size (by have:=hX1.out;have:=hbl32'.out;omega) ?_;intro v7 w7 hR7 hb7 hg7 hat7;have hR7':=Lib.hid hR7;have hb7':=Lib.hid hb7;have hg7':=Lib.hid hg7;clear hR7 hb7 hg7 hat7))
   go_roundw
   case rel=>exact ⟨k+1,by have:=hlX.out;omega,by go_num,by rw[hnx'.out];exact hR7'.out,hb7'.out⟩
   case measure=>simp[intOf];omega
  have htk2:=Lib.hid (htk'.out (by have:=hlX.out;omega) (by omega))
  have hnle:n≤X.length:=by omega
  have hcut:=cut_full Av n cv
  go_wp2_with fail
  go_ret2
  refine ⟨_,rfl,?_,hb2.out.trans (hb'.out.mono hb2.out.size)⟩
  rw[← htk2.out]
  have hF:=Kd.R_take (m:=n) hR'.out hnle
  have hl:=List.length_take_of_le hnle
  refine ⟨Av,n,by rw[hl];rfl,by rw[hl];exact Nat.le_refl _,?_,fun ad e=>?_⟩
  ·exact (Kd.R_reads' hF).2.2
  subst e;exact Nat.le_trans hb2.out.size (Kd.R_base hR'.out ad.block rfl)
end Go.Proofs.Ytbajioiiaamokaa.Own
namespace Go.Proofs.Ytbajioiiaamokaa.Own
open Go.RowKit Go.Proofs.Ytbajioiiaamokaa.Arr Go.Proofs.Ytbajioiiaamokaa.QB Go.Proofs.YtbajioiiaamokaaW.PrintWords Go.Proofs.YtbajioiiaamokaaW.PrintLast Go.Proofs.YtbajioiiaamokaaW.PrintMore
set_option linter.unusedVariables false
set_option linter.unusedSimpArgs false
theorem range_part {w:World} {b o:Nat} {l:List Int} (h:w.rangeAt b o (l.map (Value.int .u8))) (m n:Nat):w.rangeAt b (o+m) (((l.drop m).take n).map (Value.int .u8)):=fun j v hj=>by
 rw[Nat.add_assoc]
 refine h (m+j) v ?_
 rw[List.map_take,List.map_drop,List.getElem?_take] at hj
 split at hj
 ·rwa [List.getElem?_drop] at hj
 cases hj
theorem Fr.part {w:World} {base b o c:Nat} {l:List Int} (h:w.rangeAt b o (l.map (Value.int .u8))) (hb:base≤b) (m n:Nat) (hl:((l.drop m).take n).length=n) (hn:n≤1000000) (hc:n≤c):Fr w base (.slice (some ⟨b,o+m,none⟩) n c) ((l.drop m).take n):=
 ⟨_,c,by rw[hl],by rw[hl];exact hc,C_of_range (by rw[hl];omega) (range_part h m n),fun ad e=>by obtain rfl:=Option.some.inj e;exact hb⟩
set_option maxHeartbeats 2000000 in
set_option maxRecDepth 100000 in
theorem dKeys_ok (A0:Option Addr) (c0:Nat) (pass:List Int) (w:World) (hr0:Kd.C (Kd.int .u8) w A0 pass.length pass) (hc0:pass.length≤c0) (A1:Option Addr) (c1:Nat) (salt:List Int) (hr1:Kd.C (Kd.int .u8) w A1 salt.length salt) (hc1:salt.length≤c1) (hlen:salt.length≤100000000) (r:Int) (h:rightB pass.length r=true) :
  Calls Try.prog 68 #[.slice A0 pass.length c0,.slice A1 salt.length c1,.int .i64 r] w fun e w'=>∃ v1 v2 v3,e=.returned (.tuple #[v1,v2,v3,.int .i64 0])∧Fr w' w.heap.size v1 ((bytesD (blockL pass) salt r.toNat 96).take 32)∧Fr w' w.heap.size v2 (((bytesD (blockL pass) salt r.toNat 96).drop 32).take 32)∧Fr w' w.heap.size v3 ((bytesD (blockL pass) salt r.toNat 96).drop 64)∧Below w.heap.size w w':=by
 have hby:=dBytes_ok A0 c0 pass w hr0 hc0 A1 c1 salt hr1 hc1 hlen r 96 h (by decide)
 have hDl:=bytesD_length (blockL pass) salt r.toNat 96 (by decide)
 obtain ⟨D,hD⟩:∃ D,D=bytesD (blockL pass) salt r.toNat 96:=⟨_,rfl⟩
 rw[← hD] at hby hDl ⊢
 have hby':=Lib.hid hby
 have hDl':=Lib.hid hDl
 clear hby hr0 hc0 hr1 hc1 hlen h hD hDl
 go_enter Try.func68,Try.ntmps68
 go_wp2_with (go_at_call 83;refine hby'.out.mono ?_;rintro e w1 ⟨v,rfl,⟨A,c,hv,hc,hC,hf⟩,hb⟩;rw[hDl'.out] at hv hc hC;subst hv;have hb1:=Lib.hid hb;have hC1:=Lib.hid hC;have hf1:=Lib.hid hf;clear hb hC hf)
 go_quiet (fail)
 go_wp2_with fail
 refine bodyPost_ret (by simp[results,Try.results68,go_sem];rfl) rfl ?_
 have hl:=hDl'.out
 obtain ⟨b,o,rfl,hr⟩:=C_range (Kd.C_drewN hC1.out nq) (by decide)
 have hbb:=hf1.out _ rfl
 have f1:=Fr.part (c:=32) hr hbb 0 32 (by rw[List.length_take,List.length_drop];omega) (by decide) (by decide)
 have f2:=Fr.part (c:=32) hr hbb 32 32 (by rw[List.length_take,List.length_drop];omega) (by decide) (by decide)
 have f3:=Fr.part (c:=c - 64) hr hbb 64 32 (by rw[List.length_take,List.length_drop];omega) (by decide) (by omega)
 rw[List.drop_zero] at f1
 rw[List.take_of_length_le (l:=D.drop 64) (by rw[List.length_drop];omega)] at f3
 exact ⟨_,_,_,rfl,f1,f2,f3,pw_below_drewN hb1.out _⟩
end Go.Proofs.Ytbajioiiaamokaa.Own
namespace Go.Proofs.Ytbajioiiaamokaa.Own
open Go.RowKit Go.Proofs.Ytbajioiiaamokaa.Arr Go.Proofs.Ytbajioiiaamokaa.QB Go.Proofs.YtbajioiiaamokaaW.PrintWords Go.Proofs.YtbajioiiaamokaaW.PrintLast Go.Proofs.YtbajioiiaamokaaW.PrintMore
set_option linter.unusedVariables false
end Go.Proofs.Ytbajioiiaamokaa.Own
