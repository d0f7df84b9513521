/- FiL, pruned (slim.py). -/
import Derived.Test.YtbajioiiaamokaaZF47
import Derived.Deep.DeepCutAuto
namespace Go.Proofs.Ytbajioiiaamokaa.Own
open Go.RowKit Go.Proofs.Ytbajioiiaamokaa.Arr Go.Proofs.Ytbajioiiaamokaa.QB Go.Proofs.YtbajioiiaamokaaW.PrintWords Go.Proofs.YtbajioiiaamokaaW.PrintLast Go.Proofs.YtbajioiiaamokaaW.PrintMore
set_option linter.unusedVariables false
set_option linter.unusedSimpArgs false
attribute [-go_sem] Instr.build
section
variable {P:Program} {ops:Array Oper} {rest:List Oper} {o:Oper} {a:Act} {w:World} {Q:Exit→Act→World→Prop}
theorem wpList_slice_lo (hg:o.guard=none) (ty e:TypeId) (hu:P.underlying ty=some (.slice e)) (x lo:Operand) (ho:o.op=.slice ty x (some lo) none none) (vx vl v:Value) (hx:a.eval x=vx) (hl:a.eval lo=vl)
  (hr:(Instr.slice ty vx (some vl) none none).run P w=.ok v w) (h:wpList P ops Q rest (a.put o.dst v) w):wpList P ops Q (o :: rest) a w:=by
 refine wpList_plain hg fun _ hK=>?_
 unfold Oper.wp
 rw[exec_slice_l w ty e hu x lo ho vx vl v hx hl hr]
 exact hK _ _ h
end
theorem byt_checkD (pass salt:List Int) (r:Int):∀ x ∈ checkD pass salt r,byt x:=fun x hx=>byt_bytesD _ _ _ _ x (List.mem_of_mem_drop (List.mem_of_mem_take hx))
theorem fRec_len (salt check:List Int) (hs:salt.length=16) (hc:check.length=32) (j:Nat):(rlist (fRec salt check) j).length≤1000000:=by
 match j with
 |0=>show salt.length≤1000000;omega
 |1=>show check.length≤1000000;omega
 |k+2=>show (slZero).wrap.length≤1000000;exact by decide
theorem builtRrG (a:Int) (A B:Option Addr) (n k m j:Nat):Try.prog.built 39 (#[(0,.int .u64 a),(2,.slice A n k),(4,.slice B m j)]:Array (Nat × Value)).toList=some (([.int .u64 a,.int .u64 0,.slice A n k,.int .u64 0,.slice B m j]:List Value)++rcs (fun _=>slZero) (fun _=>none) (fun _=>0)).toArray:=by kernel_rfl
theorem recOpen_first (salt pass CD KD KK:List Int) (r:Int) (hs:salt.length=16) (hsb:∀ x ∈ salt,byt x) (hr:rightB pass.length r=true) (hCD:checkD pass salt r=CD) (hKD:keyD pass salt r=KD) (hKK:kekD pass salt r=KK) (L:List Int) (hL:L=recBytes (fRec salt CD) KD) (A:Option Addr) (c:Nat) (A1:Option Addr) (c1:Nat) (W:World)
  (hC:Kd.C (Kd.int .u8) W A 624 L) (hc:624≤c) (hC1:Kd.C (Kd.int .u8) W A1 pass.length pass) (hc1:pass.length≤c1) :
  Calls Try.prog 36 #[.slice A 624 c,.slice A1 pass.length c1,.int .i64 r] W fun e w'=>∃ AX cX X1 d1 X2 d2,e=.returned (.tuple #[.agg (rcl (fRec salt CD) AX cX).toArray,.slice X1 32 d1,.slice X2 32 d2,.int .i64 0])∧RcV w' (fRec salt CD) AX cX∧32≤d1∧32≤d2∧Kd.C (Kd.int .u8) w' X1 32 KK∧Kd.C (Kd.int .u8) w' X2 32 KD∧Below W.heap.size W w':=by
 have hl3:CD.length=32:=by rw[← hCD];exact checkD_len _ _ _
 have hcb:∀ x ∈ CD,byt x:=by rw[← hCD];exact byt_checkD _ _ _
 have hR:=fRec_right salt CD hs hl3
 have hl:=recBytes_len hR KD
 obtain ⟨s,ho,h4⟩:=rcRead_bytes hR (fRec_fit _ _) KD
 have hw:∀ k,k<4→∀ x ∈ ((fRec salt CD).s k).wrap,byt x:=fun k _ x hx=>absurd (show x ∈ ([]:List Int) from hx) List.not_mem_nil
 have hb:=byt_recBytes (r:=fRec salt CD) hsb hcb hw KD
 have hft:=fits_bytes hR KD
 rw[← hL] at hl ho hb hft
 obtain ⟨R,hRe⟩:∃ R:RcT,R={ fRec salt CD with s:=s }:=⟨_,rfl⟩
 rw[← hRe] at ho
 have e1:R.salt=salt:=by rw[hRe];rfl
 have e2:R.check=CD:=by rw[hRe];rfl
 have hgo:=recOpen_ok A c L A1 c1 pass r W (by rw[hl];exact hC) (by omega) hl hb R ho hC1 hc1 hr (by rw[e1,e2];exact hCD) (by rw[e1,hKD];exact hft)
 rw[hl,e1,hKD,hKK] at hgo
 refine hgo.mono ?_
 rintro e w' ⟨AX,cX,X1,d1,X2,d2,rfl,hV,k1,k2,C1,C2,hbl⟩
 have e3:rcl R AX cX=rcl (fRec salt CD) AX cX:=by rw[hRe];exact rcl_congr h4 AX cX
 rw[hRe] at hV
 exact ⟨AX,cX,X1,d1,X2,d2,by rw[e3],RcV_congr h4 hV,k1,k2,C1,C2,hbl⟩
set_option maxHeartbeats 8000000 in
set_option maxRecDepth 100000 in
theorem firsts_big (A0:Option Addr) (n c0:Nat) (A1:Option Addr) (m c1:Nat) (r:Int) (w:World) (h:(4<r∧r≤1000)∨(¬ (4<r∧r≤1000)∧100<m)∨(¬ (4<r∧r≤1000)∧m≤100∧100<n)) :
  Calls Try.prog 8 #[.slice A0 n c0,.slice A1 m c1,.int .i64 r] w fun e w'=>e=.returned (.bool true)∧Below w.heap.size w w':=by
 have hawk:=Lib.hid awake18_any
 have b0:=Lib.hid (Below.refl w.heap.size w)
 go_enter Try.func8,Try.ntmps8
 go_upto_region 1 with fail
 go_cut [33] (fun v w'=>v=.bool true∧w=w')
 case first=>
  have key:∀ (x y:Bool),True:=fun _ _=>trivial
  rcases h with ⟨h1,h2⟩ | ⟨h1,h2⟩ | ⟨h1,h2,h3⟩
  ·go_wp2_with fail
   go_meet
   exact ⟨rfl,rfl⟩
  ·have h3:100<(m:Int):=by omega
   rcases (show r≤4∨1000<r by omega) with h4 | h4
   ·clear h1 h2
    go_wp2_with fail
    go_meet
    exact ⟨rfl,rfl⟩
   have h5:4<r:=by omega
   have h6:(r≤1000)=False:=by simp;omega
   have h7:decide (r≤1000)=false:=by simp;omega
   clear h1 h2 h4
   go_wp2_with fail
   go_meet
   exact ⟨rfl,rfl⟩
  have h8:(m:Int)≤100:=by omega
  have h9:100<(n:Int):=by omega
  rcases (show r≤4∨1000<r by omega) with h4 | h4
  ·clear h1 h2 h3
   go_wp2_with fail
   go_meet
   exact ⟨rfl,rfl⟩
  have h5:4<r:=by omega
  have h6:(r≤1000)=False:=by simp;omega
  have h7:decide (r≤1000)=false:=by simp;omega
  clear h1 h2 h3 h4
  go_wp2_with fail
  go_meet
  exact ⟨rfl,rfl⟩
 case rest=>
  obtain ⟨rfl,rfl⟩:=hcut
  clear h
  go_wp2_with (first
  |((with_reducible go_at_call 10);refine (hawk.out _).mono ?_;rintro e w1 ⟨rfl,hb⟩;have b1:=Lib.hid (below_step b0.out hb);clear hb))
  go_ret
  exact ⟨rfl,b1.out⟩
set_option maxHeartbeats 8000000 in
set_option maxRecDepth 100000 in
theorem firsts_salt (A0:Option Addr) (c0:Nat) (pass:List Int) (A1:Option Addr) (c1:Nat) (salt:List Int) (r:Int) (w:World) (hC0:Kd.C (Kd.int .u8) w A0 pass.length pass) (hc0:pass.length≤c0) (hpb:∀ x ∈ pass,byt x) (hC1:Kd.C (Kd.int .u8) w A1 salt.length salt) (hc1:salt.length≤c1) (hsb:∀ x ∈ salt,byt x) (hr4 : ¬ (4<r∧r≤1000)) (hp100:pass.length≤100) (hs100:salt.length≤100) (hs:salt.length≠16) :
  Calls Try.prog 8 #[.slice A0 pass.length c0,.slice A1 salt.length c1,.int .i64 r] w fun e w'=>e=.returned (.bool true)∧Below w.heap.size w w':=by
 obtain ⟨hz,-⟩:=zero_of_info (P:=Try.prog) infoRc
 obtain ⟨hzr,-⟩:=zero_of_info (P:=Try.prog) infoRr
 obtain ⟨Z,hZ⟩:∃ Z:Array Value,Z=zRc:=⟨_,rfl⟩
 have hZs:=Lib.hid (show (Try.prog.info? 28).map (·.size)=some Z.size by rw[hZ];exact szRc)
 have hZo:=Lib.hid (show Z.all (·.oneCell')=true by rw[hZ];exact rcl_one _ _ _)
 have hZ25:=Lib.hid (show Z.size=25 by rw[hZ];rfl)
 rw[← hZ] at hz hzr
 have hawk:=Lib.hid awake18_any
 have b0:=Lib.hid (Below.refl w.heap.size w)
 have hfirst:=Lib.hid (recFirst_no A0 c0 pass A1 c1 salt r w hC0 hc0 (by exact fun k=>hs k.1))
 rw[← hZ] at hfirst
 have hnb:r≤4∨1000<r:=by omega
 obtain ⟨np,hnp⟩:∃ n,n=pass.length:=⟨_,rfl⟩
 obtain ⟨ns,hns⟩:∃ n,n=salt.length:=⟨_,rfl⟩
 rw[← hnp] at hfirst hp100 ⊢
 rw[← hns] at hfirst hs hs100 ⊢
 clear hnp hns hZ hC0 hc0 hpb hC1 hc1 hsb hr4
 have hn1:((ns:Int)=16)=False:=by simp;omega
 have hn2:((ns:Int) == 16)=false:=by simp;omega
 have hn3:((ns:Int) != 16)=true:=by simp;omega
 go_enter Try.func8,Try.ntmps8
 go_upto_region 1 with fail
 go_cut [33] (fun v w'=>v=.bool false∧w=w')
 case first=>
  have h8:(ns:Int)≤100:=by omega
  have h9:(np:Int)≤100:=by omega
  rcases hnb with hnb | hnb
  ·go_wp2_with fail
   go_meet
   exact ⟨congrArg Value.bool (by rw[Bool.or_eq_false_iff];exact ⟨decide_eq_false (by omega),decide_eq_false (by omega)⟩),rfl⟩
  have hq1:4<r:=by omega
  have hq2:(r≤1000)=False:=by simp;omega
  have hq3:decide (r≤1000)=false:=by simp;omega
  go_wp2_with fail
  go_meet
  exact ⟨congrArg Value.bool (by rw[Bool.or_eq_false_iff];exact ⟨decide_eq_false (by omega),decide_eq_false (by omega)⟩),rfl⟩
 case rest=>
  obtain ⟨rfl,rfl⟩:=hcut
  clear hnb hp100 hs100 hs
  go_wp2_with (first
  |((with_reducible go_at_call 39);refine hfirst.out.mono ?_;rintro e w1 ⟨rfl,hb⟩;have b1:=Lib.hid hb;clear hb)
  |(with_reducible refine wpList_store_row rfl 28 _ _ rfl w1.heap.size Z rfl rfl 28 Z (heap_alloc_last _ _) hZs.out rfl hZo.out ?_;have bx2:=Lib.hid (below_setRow ((Below.refl w1.heap.size w1).alloc (Nat.le_refl _) (.cells Z 28 (0,0))) (Nat.le_refl _) Z);have g2:=Lib.hid (setRow_heap (w1.alloc (.cells Z 28 (0,0))) w1.heap.size Z Z 28 (0,0) (heap_alloc_last _ _));generalize (w1.alloc (.cells Z 28 (0,0))).setRow w1.heap.size Z=w2 at *;have b2:=Lib.hid (below_step b1.out bx2.out))
  |((with_reducible go_at_call 10);refine (hawk.out _).mono ?_;rintro e w3 ⟨rfl,hb⟩;have b3:=Lib.hid (below_step b2.out hb);clear hb))
  go_ret
  exact ⟨rfl,b3.out⟩
set_option maxHeartbeats 8000000 in
set_option maxRecDepth 100000 in
theorem firsts_no (A0:Option Addr) (c0:Nat) (pass:List Int) (A1:Option Addr) (c1:Nat) (salt:List Int) (r:Int) (w:World) (hC0:Kd.C (Kd.int .u8) w A0 pass.length pass) (hc0:pass.length≤c0) (hpb:∀ x ∈ pass,byt x) (hC1:Kd.C (Kd.int .u8) w A1 salt.length salt) (hc1:salt.length≤c1) (hsb:∀ x ∈ salt,byt x) (hr4 : ¬ (4<r∧r≤1000)) (hp100:pass.length≤100) (hs100:salt.length≤100) (hs:salt.length=16) (hr:rightB pass.length r=false) :
  Calls Try.prog 8 #[.slice A0 pass.length c0,.slice A1 salt.length c1,.int .i64 r] w fun e w'=>e=.returned (.bool true)∧Below w.heap.size w w':=by
 obtain ⟨hz,-⟩:=zero_of_info (P:=Try.prog) infoRc
 obtain ⟨hzr,-⟩:=zero_of_info (P:=Try.prog) infoRr
 obtain ⟨Z,hZ⟩:∃ Z:Array Value,Z=zRc:=⟨_,rfl⟩
 have hZs:=Lib.hid (show (Try.prog.info? 28).map (·.size)=some Z.size by rw[hZ];exact szRc)
 have hZo:=Lib.hid (show Z.all (·.oneCell')=true by rw[hZ];exact rcl_one _ _ _)
 have hZ25:=Lib.hid (show Z.size=25 by rw[hZ];rfl)
 rw[← hZ] at hz hzr
 have hawk:=Lib.hid awake18_any
 have b0:=Lib.hid (Below.refl w.heap.size w)
 have hfirst:=Lib.hid (recFirst_no A0 c0 pass A1 c1 salt r w hC0 hc0 (by exact fun k=>by rw[hr] at k;exact absurd k.2 (by decide)))
 rw[← hZ] at hfirst
 have hright:=Lib.hid (fun (W:World) (hW:Below w.heap.size w W)=>rRight_any pass r false hr A0 c0 W (Kd.C_below hC0 hW) hc0)
 have hnb:r≤4∨1000<r:=by omega
 obtain ⟨np,hnp⟩:∃ n,n=pass.length:=⟨_,rfl⟩
 obtain ⟨ns,hns⟩:∃ n,n=salt.length:=⟨_,rfl⟩
 rw[← hnp] at hright hfirst hp100 ⊢
 rw[← hns] at hfirst hs hs100 ⊢
 clear hnp hns hZ hC0 hc0 hpb hC1 hc1 hsb hr4
 subst hs
 go_enter Try.func8,Try.ntmps8
 go_upto_region 1 with fail
 go_cut [33] (fun v w'=>v=.bool false∧w=w')
 case first=>
  have h9:(np:Int)≤100:=by omega
  rcases hnb with hnb | hnb
  ·go_wp2_with fail
   go_meet
   exact ⟨congrArg Value.bool (decide_eq_false (by omega)),rfl⟩
  have hq1:4<r:=by omega
  have hq2:(r≤1000)=False:=by simp;omega
  have hq3:decide (r≤1000)=false:=by simp;omega
  go_wp2_with fail
  go_meet
  exact ⟨congrArg Value.bool (decide_eq_false (by omega)),rfl⟩
 case rest=>
  obtain ⟨rfl,rfl⟩:=hcut
  clear hnb hp100 hs100
  go_wp2_with (first
  |((with_reducible go_at_call 39);refine hfirst.out.mono ?_;rintro e w1 ⟨rfl,hb⟩;have b1:=Lib.hid hb;clear hb)
  |(with_reducible refine wpList_store_row rfl 28 _ _ rfl w1.heap.size Z rfl rfl 28 Z (heap_alloc_last _ _) hZs.out rfl hZo.out ?_;have bx2:=Lib.hid (below_setRow ((Below.refl w1.heap.size w1).alloc (Nat.le_refl _) (.cells Z 28 (0,0))) (Nat.le_refl _) Z);have g2:=Lib.hid (setRow_heap (w1.alloc (.cells Z 28 (0,0))) w1.heap.size Z Z 28 (0,0) (heap_alloc_last _ _));generalize (w1.alloc (.cells Z 28 (0,0))).setRow w1.heap.size Z=w2 at *;have b2:=Lib.hid (below_step b1.out bx2.out))
  |((with_reducible go_at_call 37);refine (hright.out _ b2.out).mono ?_;rintro e w3 ⟨rfl,hd⟩;have b3:=Lib.hid (below_step b2.out hd.below);clear hd)
  |((with_reducible go_at_call 10);refine (hawk.out _).mono ?_;rintro e w4 ⟨rfl,hb⟩;have b4:=Lib.hid (below_step b3.out hb);clear hb))
  go_ret
  exact ⟨rfl,b4.out⟩
set_option maxHeartbeats 8000000 in
set_option maxRecDepth 100000 in
theorem firsts_ok (A0:Option Addr) (c0:Nat) (pass:List Int) (A1:Option Addr) (c1:Nat) (salt:List Int) (r:Int) (w:World) (hC0:Kd.C (Kd.int .u8) w A0 pass.length pass) (hc0:pass.length≤c0) (hpb:∀ x ∈ pass,byt x) (hC1:Kd.C (Kd.int .u8) w A1 salt.length salt) (hc1:salt.length≤c1) (hsb:∀ x ∈ salt,byt x) (hr4 : ¬ (4<r∧r≤1000)) (hs:salt.length=16) (hr:rightB pass.length r=true) :
  Calls Try.prog 8 #[.slice A0 pass.length c0,.slice A1 salt.length c1,.int .i64 r] w fun e w'=>e=.returned (.bool true)∧Below w.heap.size w w':=by
 obtain ⟨hz,-⟩:=zero_of_info (P:=Try.prog) infoRc
 obtain ⟨hzr,-⟩:=zero_of_info (P:=Try.prog) infoRr
 obtain ⟨Z,hZ⟩:∃ Z:Array Value,Z=zRc:=⟨_,rfl⟩
 have hZs:=Lib.hid (show (Try.prog.info? 28).map (·.size)=some Z.size by rw[hZ];exact szRc)
 have hZo:=Lib.hid (show Z.all (·.oneCell')=true by rw[hZ];exact rcl_one _ _ _)
 have hZ25:=Lib.hid (show Z.size=25 by rw[hZ];rfl)
 rw[← hZ] at hz hzr
 have hawk:=Lib.hid awake18_any
 have b0:=Lib.hid (Below.refl w.heap.size w)
 have hZr:=Lib.hid (show (Try.prog.info? 39).map (·.size)=some Z.size by rw[hZ];exact szRr)
 obtain ⟨hrp,hr1,hr2⟩:=right_of hr
 have hr5:r≤4:=by omega
 obtain ⟨D,hD⟩:∃ D,D=bytesD (blockL pass) salt r.toNat 96:=⟨_,rfl⟩
 have hDl:D.length=96:=by rw[hD];exact bytesD_length _ _ _ _ (by decide)
 have e64:D.drop 64=checkD pass salt r:=by unfold checkD;rw[← hD,List.take_of_length_le (by rw[List.length_drop];omega)]
 have e32:(D.take 64).drop 32=keyD pass salt r:=by unfold keyD;rw[← hD,List.drop_take]
 have e0:D.take 32=kekD pass salt r:=by unfold kekD;rw[← hD,List.drop_zero]
 have hfirst:=Lib.hid (recFirst_any A0 c0 pass A1 c1 salt r w hC0 hc0 hC1 hc1 hs hr)
 have hof:=Lib.hid (fun (AX:Nat→Option Addr) (cX:Nat→Nat) (W:World)=>of18_any (fRec salt (checkD pass salt r)) AX cX W)
 have hsame:=Lib.hid (fun (AX AY:Nat→Option Addr) (cX cY:Nat→Nat) (W:World) (hV:RcV W (fRec salt (checkD pass salt r)) AX cX) (hV':RcV W (fRec salt (checkD pass salt r)) AY cY)=>recSame_eq (fRec salt (checkD pass salt r)) AX cX AY cY W hV hV' (fun j hj=>fRec_len salt _ hs (checkD_len _ _ _) j))
 have hright:=Lib.hid (fun (W:World) (hW:Below w.heap.size w W)=>rRight_any pass r true hr A0 c0 W (Kd.C_below hC0 hW) hc0)
 have hbyt:=Lib.hid (fun (W:World) (hW:Below w.heap.size w W)=>show Calls Try.prog 38 #[.slice A0 pass.length c0,.slice A1 16 c1,.int .i64 r,.int .i64 96] W (fun e w'=>∃ X d,e=.returned (.slice X 96 d)∧96≤d∧Kd.C (Kd.int .u8) w' X 96 D∧Below W.heap.size W w') from by
  have:=rBytes_any pass salt hpb hsb (by omega) (by omega) r hr1 hr2 96 (by decide) A0 c0 A1 c1 W (Kd.C_below hC0 hW) hc0 (Kd.C_below hC1 hW) hc1
  rw[hs] at this
  refine this.mono ?_
  rintro e w' ⟨v,rfl,⟨X,d,rfl,hd,hX,-⟩,hbl⟩
  rw[← hD] at hd hX ⊢
  rw[hDl] at hd hX ⊢
  exact ⟨X,d,rfl,hd,hX,hbl⟩)
 have hcutc:=Lib.hid (fun (X:Option Addr) (d:Nat) (hd:96≤d)=>by have:=cutF X 96 d 64 D (by omega) hd;exact this)
 have hcutk:=Lib.hid (fun (X:Option Addr) (d:Nat) (hd:96≤d)=>by have:=cutB X 96 d 32 64 D (by omega) (by omega) hd;exact this)
 have hsbt:=Lib.hid (fun (W:World) (a:List Int) (h32:a.length=32) (X:Option Addr) (d:Nat) (Y:Option Addr) (f:Nat) (hX:Kd.C (Kd.int .u8) W X 32 a) (hd:32≤d) (hY:Kd.C (Kd.int .u8) W Y 32 a) (hf:32≤f)=>show Calls Try.prog 20 #[.slice X 32 d,.slice Y 32 f] W (fun e w'=>e=.returned (.bool true)∧Drawn0 W w') from by
  have:=same_any a a (by omega) W X d Y f (by rw[h32];exact hX) (by rw[h32];exact hd) (by rw[h32];exact hY) (by rw[h32];exact hf)
  rw[h32,decide_eq_true rfl] at this
  exact this)
 have hR:=fRec_right salt (checkD pass salt r) hs (checkD_len _ _ _)
 have hbytes:=Lib.hid (fun (a:Option Addr) (m:Nat) (b:Option Addr) (n:Nat) (X:Option Addr) (d:Nat) (W:World) (hV:RcV W (fRec salt (checkD pass salt r)) (fA a b) (fC m n)) (hK:Kd.C (Kd.int .u8) W X 32 (keyD pass salt r))=>show Calls Try.prog 11 #[.agg (rcl (fRec salt (checkD pass salt r)) (fA a b) (fC m n)).toArray,.slice X 32 d] W (fun e w'=>∃ Y f,e=.returned (.tuple #[.slice Y 624 f,.int .i64 0])∧624≤f∧Kd.C (Kd.int .u8) w' Y 624 (recBytes (fRec salt (checkD pass salt r)) (keyD pass salt r))∧Below W.heap.size W w') from by
  have:=recBytes_any (fRec salt (checkD pass salt r)) (fA a b) (fC m n) X d (keyD pass salt r) W hV (fRec_fit _ _) (by rw[keyD_len];exact hK) hR (keyD_len _ _ _)
  rw[keyD_len] at this
  refine this.mono ?_
  rintro e w' ⟨Y,f,rfl,ho,hbl⟩
  obtain ⟨k1,k2,k3⟩:=C_of_own ho
  rw[recBytes_len hR] at k2 k3 ⊢
  exact ⟨Y,f,rfl,k2,k3,hbl⟩)
 have hopen:=Lib.hid (fun (Y:Option Addr) (f:Nat) (W:World) (hW:Below w.heap.size w W) (L:List Int) (hL:L=recBytes (fRec salt (checkD pass salt r)) (keyD pass salt r)) (hY:Kd.C (Kd.int .u8) W Y 624 L) (hf:624≤f)=>recOpen_first salt pass (checkD pass salt r) (keyD pass salt r) (kekD pass salt r) r hs hsb hr rfl rfl rfl L hL Y f A0 c0 W hY hf (Kd.C_below hC0 hW) hc0)
 have hGb:=Lib.hid (fun (X:Option Addr) (d:Nat) (W:World)=>show (Instr.build 39 #[(0,.int .u64 1),(2,.slice A1 16 c1),(4,.slice X 32 d)]).run Try.prog W=.ok (.agg (rcl (fRec salt (checkD pass salt r)) (fA A1 X) (fC c1 d)).toArray) W from by
  rw[fRec_cells,checkD_len,hs]
  exact run_build W _ _ _ (builtRrG 1 A1 X 16 c1 32 d))
 have hVH:=Lib.hid (fun (X:Option Addr) (d:Nat) (W:World) (hW:Below w.heap.size w W) (hX:Kd.C (Kd.int .u8) W X 32 (checkD pass salt r)) (hd:32≤d)=>fRec_v W A1 X c1 d salt (checkD pass salt r) (Kd.C_below hC1 hW) hc1 (by rw[checkD_len];exact hX) (by rw[checkD_len];exact hd))
 have lk:=Lib.hid (keyD_len pass salt r)
 have l0:=Lib.hid (kekD_len pass salt r)
 obtain ⟨KD,hKD⟩:∃ K,K=keyD pass salt r:=⟨_,rfl⟩
 obtain ⟨CD,hCD⟩:∃ K,K=checkD pass salt r:=⟨_,rfl⟩
 obtain ⟨KK,hKK⟩:∃ K,K=kekD pass salt r:=⟨_,rfl⟩
 rw[← hKD] at hfirst hbytes hopen lk e32
 rw[← hCD] at hfirst hof hsame hbytes hopen hGb hVH e64
 rw[← hKK] at hopen l0 e0
 obtain ⟨L,hL⟩:∃ L,L=recBytes (fRec salt CD) KD:=⟨_,rfl⟩
 rw[← hL] at hbytes
 have hopen:=Lib.hid (fun (Y:Option Addr) (f:Nat) (W:World) (hW:Below w.heap.size w W) (hY:Kd.C (Kd.int .u8) W Y 624 L) (hf:624≤f)=>hopen.out Y f W hW L hL hY hf)
 obtain ⟨F,hF⟩:∃ F,F=fRec salt CD:=⟨_,rfl⟩
 have hFc:=Lib.hid (fun (AX:Nat→Option Addr) (cX:Nat→Nat)=>show (rcl F AX cX).toArray.size=25 from rfl)
 rw[← hF] at hfirst hof hsame hbytes hopen hGb hVH
 have E64:=Lib.hid e64
 have E32:=Lib.hid e32
 have E0:=Lib.hid e0
 have h9:((pass.length:Nat):Int)≤100:=by omega
 obtain ⟨np,hnp⟩:∃ n,n=pass.length:=⟨_,rfl⟩
 rw[hs] at hfirst ⊢
 rw[← hnp] at hfirst hright hbyt hopen h9 ⊢
 clear hnp hZ hC0 hc0 hpb hC1 hc1 hsb hr4 hr hrp hr1 hr2 hs hD hDl e64 e32 e0 hR hKD hCD hKK hL hF
 go_enter Try.func8,Try.ntmps8
 go_wp2_with (first
  |((with_reducible go_at_call 39);refine hfirst.out.mono ?_;rintro e w1 ⟨a,m,b,n,X2,d2,rfl,hV,k2,C2,hb⟩;have b1:=Lib.hid hb;have V1:=Lib.hid hV;have K1:=Lib.hid C2;have d2':=Lib.hid k2;obtain ⟨G,hG⟩:∃ G,G=(rcl F (fA a b) (fC m n)).toArray:=⟨_,rfl⟩;rw[← hG];have hGs:=Lib.hid (show (Try.prog.info? 28).map (·.size)=some G.size by rw[hG];exact szRc);have hGo:=Lib.hid (show G.all (·.oneCell')=true by rw[hG];exact rcl_one _ _ _);have hGZ:=Lib.hid (show Z.size=G.size by rw[hZ25.out,hG];rfl);have hof1:=Lib.hid (fun W=>hof.out (fA a b) (fC m n) W);have hby1:=Lib.hid (fun (W:World) (hW:Below w1.heap.size w1 W)=>hbytes.out a m b n X2 d2 W (V1.out.below hW) (Kd.C_below K1.out hW));rw[← hG] at hof1 hby1;have hG':=Lib.hid hG;clear hb hV C2 k2 hG)
  |(with_reducible refine wpList_store_row rfl 28 _ _ rfl w1.heap.size G rfl rfl 28 Z (heap_alloc_last _ _) hGs.out hGZ.out hGo.out ?_;have bx2:=Lib.hid (below_setRow ((Below.refl w1.heap.size w1).alloc (Nat.le_refl _) (.cells Z 28 (0,0))) (Nat.le_refl _) G);have g2:=Lib.hid (setRow_heap (w1.alloc (.cells Z 28 (0,0))) w1.heap.size Z G 28 (0,0) (heap_alloc_last _ _));generalize (w1.alloc (.cells Z 28 (0,0))).setRow w1.heap.size G=w2 at *;have b2:=Lib.hid (below_step b1.out bx2.out);have c2:=Lib.hid bx2.out)
  |((with_reducible go_at_call 37);refine (hright.out _ b2.out).mono ?_;rintro e w3 ⟨rfl,hd⟩;have b3:=Lib.hid (below_step b2.out hd.below);have c3:=Lib.hid (below_step c2.out hd.below);have g3:=Lib.hid (heap_below g2.out hd.below);clear hd)
  |((with_reducible go_at_call 38);refine (hbyt.out _ b3.out).mono ?_;rintro e w4 ⟨X,d,rfl,hd,hX,hb⟩;have b4:=Lib.hid (below_step b3.out hb);have c4:=Lib.hid (below_step c3.out hb);have g4:=Lib.hid (heap_below g3.out hb);have D4:=Lib.hid hX;have d4:=Lib.hid (Below.refl w4.heap.size w4);obtain ⟨XC,sC,cC⟩:=hcutc.out X d hd;obtain ⟨XK,sK,cK⟩:=hcutk.out X d hd;have sC':=Lib.hid sC;have cC':=Lib.hid cC;have sK':=Lib.hid sK;have cK':=Lib.hid cK;have d96:=Lib.hid hd;obtain ⟨H,hH⟩:∃ H,H=(rcl F (fA A1 XC) (fC c1 (d - 64))).toArray:=⟨_,rfl⟩;have hHs:=Lib.hid (show (Try.prog.info? 39).map (·.size)=some H.size by rw[hH];exact szRr);have hHo:=Lib.hid (show H.all (·.oneCell')=true by rw[hH];exact rcl_one _ _ _);have hHZ:=Lib.hid (show Z.size=H.size by rw[hZ25.out,hH];rfl);have hgb:=hGb.out XC (d - 64);rw[← hH] at hgb;have hH':=Lib.hid hH;clear hb hX hd sC cC sK cK hH)
  |(refine wpList_slice_lo rfl 23 _ Try.underlying23 _ _ rfl (.slice X 96 d) (.int .i64 64) _ rfl rfl (sC'.out _) ?_)
  |(with_reducible refine wpList_store_row rfl 39 _ _ rfl w4.heap.size H rfl rfl 39 Z (heap_alloc_last _ _) hHs.out hHZ.out hHo.out ?_;have bx5:=Lib.hid (below_setRow ((Below.refl w4.heap.size w4).alloc (Nat.le_refl _) (.cells Z 39 (0,0))) (Nat.le_refl _) H);have q5:=Lib.hid (setRow_heap (w4.alloc (.cells Z 39 (0,0))) w4.heap.size Z H 39 (0,0) (heap_alloc_last _ _));generalize (w4.alloc (.cells Z 39 (0,0))).setRow w4.heap.size H=w5 at *;have b5:=Lib.hid (below_step b4.out bx5.out);have c5:=Lib.hid (below_step c4.out bx5.out);have d5:=Lib.hid (below_step d4.out bx5.out);have g5:=Lib.hid (heap_below g4.out bx5.out))
  |((with_reducible refine wpList_load_row_on ?_ 28 _ rfl w1.heap.size rfl 28 G (0,0) _ g5.out Try.underlying28 rfl hGs.out ?_);exact rfl)
  |((with_reducible go_at_call 11);refine (hby1.out _ c5.out).mono ?_;rintro e w6 ⟨Y,f,rfl,hf,hY,hb⟩;have b6:=Lib.hid (below_step b5.out hb);have c6:=Lib.hid (below_step c5.out hb);have d6:=Lib.hid (below_step d5.out hb);have g6:=Lib.hid (heap_below g5.out hb);have q6:=Lib.hid (heap_below q5.out hb);have Y6:=Lib.hid hY;have f6:=Lib.hid hf;clear hb hY hf)
  |((with_reducible go_at_call 36);refine (hopen.out Y f _ b6.out Y6.out f6.out).mono ?_;rintro e w7 ⟨AX,cX,X1,u1,X3,u3,rfl,hV,k1,k3,C1,C3,hb⟩;have b7:=Lib.hid (below_step b6.out hb);have c7:=Lib.hid (below_step c6.out hb);have d7:=Lib.hid (below_step d6.out hb);have g7:=Lib.hid (heap_below g6.out hb);have q7:=Lib.hid (heap_below q6.out hb);have V7:=Lib.hid hV;have u1':=Lib.hid k1;have u3':=Lib.hid k3;have T1:=Lib.hid C1;have T3:=Lib.hid C3;obtain ⟨J,hJ⟩:∃ J,J=(rcl F AX cX).toArray:=⟨_,rfl⟩;rw[← hJ];have hJs:=Lib.hid (show (Try.prog.info? 28).map (·.size)=some J.size by rw[hJ];exact szRc);have hJo:=Lib.hid (show J.all (·.oneCell')=true by rw[hJ];exact rcl_one _ _ _);have hJZ:=Lib.hid (show Z.size=J.size by rw[hZ25.out,hJ];rfl);have hof7:=Lib.hid (fun W=>hof.out AX cX W);rw[← hJ] at hof7;have hJ':=Lib.hid hJ;clear hb hV k1 k3 C1 C3 hJ)
  |(with_reducible refine wpList_store_row rfl 28 _ _ rfl w7.heap.size J rfl rfl 28 Z (heap_alloc_last _ _) hJs.out hJZ.out hJo.out ?_;have bx8:=Lib.hid (below_setRow ((Below.refl w7.heap.size w7).alloc (Nat.le_refl _) (.cells Z 28 (0,0))) (Nat.le_refl _) J);have j8:=Lib.hid (setRow_heap (w7.alloc (.cells Z 28 (0,0))) w7.heap.size Z J 28 (0,0) (heap_alloc_last _ _));generalize (w7.alloc (.cells Z 28 (0,0))).setRow w7.heap.size J=w8 at *;have b8:=Lib.hid (below_step b7.out bx8.out);have c8:=Lib.hid (below_step c7.out bx8.out);have d8:=Lib.hid (below_step d7.out bx8.out);have e8:=Lib.hid bx8.out;have g8:=Lib.hid (heap_below g7.out bx8.out);have q8:=Lib.hid (heap_below q7.out bx8.out)))
 have hcut0:=Lib.hid (cut_to X 96 d 32 (by have:=d96.out;omega))
 have hVq:=Lib.hid (hVH.out XC (d - 64) w4 b4.out (by rw[← E64.out];exact cC'.out _ D4.out) (by have:=d96.out;omega))
 have hR1:=Lib.hid (fun (W:World) (h1:Below w1.heap.size w1 W) (h4:Below w4.heap.size w4 W)=>hsame.out (fA a b) (fA A1 XC) (fC m n) (fC c1 (d - 64)) W (V1.out.below h1) (hVq.out.below h4))
 have hR2:=Lib.hid (fun (W:World) (h7:Below w7.heap.size w7 W) (h4:Below w4.heap.size w4 W)=>hsame.out AX (fA A1 XC) cX (fC c1 (d - 64)) W (V7.out.below h7) (hVq.out.below h4))
 rw[← hG'.out,← hH'.out] at hR1
 rw[← hJ'.out,← hH'.out] at hR2
 clear hgb h9
 refine start_ (n:=43) (S:=fun w'=>Below w.heap.size w w'∧Below w1.heap.size w1 w'∧Below w4.heap.size w4 w'∧Below w7.heap.size w7 w'∧w'.heap[w1.heap.size]?=some (.cells G 28 (0,0))∧w'.heap[w4.heap.size]?=some (.cells H 39 (0,0))∧w'.heap[w7.heap.size]?=some (.cells J 28 (0,0))) (ds:=[]) #[false,false,false,false,false,false,false,false,false,false,false,false,false,false,false,false,false,false,false,false,false,false,false,false,false,false,false,false,false,false,false,false,false,false,false,false,false,false,false,false,false,false,false] (by kernel_rfl) rfl rfl (by exact ⟨below_drew b8.out,below_drew c8.out,below_drew d8.out,below_drew e8.out,g8.out,q8.out,j8.out⟩) (fun hHeld=>?_)
 refine pure_ (i:=0) (N:=some 85) (v:=?_) (a':=?_) #[true,false,false,false,false,false,false,false,false,false,false,false,false,false,false,false,false,false,false,false,false,false,false,false,false,false,false,false,false,false,false,false,false,false,false,false,false,false,false,false,false,false,false] rfl rfl (by kernel_rfl) (fun _ _ _ h=>h) (Or.inl ⟨by rfl,?_⟩) ?_ ?_
 rotate_left
 ·intro w';go_simp;with_reducible rfl
 rotate_left
 ·simp only[Act.put,sZ0,sZ1,sZ2,i64_w,i32_w];rfl
 refine pure_ (i:=1) (N:=some 86) (v:=?_) (a':=?_) #[true,true,false,false,false,false,false,false,false,false,false,false,false,false,false,false,false,false,false,false,false,false,false,false,false,false,false,false,false,false,false,false,false,false,false,false,false,false,false,false,false,false,false] rfl rfl (by kernel_rfl) (fun _ _ _ h=>h) (Or.inl ⟨by rfl,?_⟩) ?_ ?_
 rotate_left
 ·intro w';go_simp;with_reducible rfl
 rotate_left
 ·simp only[Act.put,sZ0,sZ1,sZ2,i64_w,i32_w];rfl
 refine pure_ (i:=2) (N:=some 87) (v:=?_) (a':=?_) #[true,true,true,false,false,false,false,false,false,false,false,false,false,false,false,false,false,false,false,false,false,false,false,false,false,false,false,false,false,false,false,false,false,false,false,false,false,false,false,false,false,false,false] rfl rfl (by kernel_rfl) (fun _ _ _ h=>h) (Or.inl ⟨by rfl,?_⟩) ?_ ?_
 rotate_left
 ·intro w';go_simp;with_reducible rfl
 rotate_left
 ·simp only[Act.put,sZ0,sZ1,sZ2,i64_w,i32_w];rfl
 refine take_ (i:=3) (N:=some 88) (v:=?_) (a':=?_) #[true,true,true,true,false,false,false,false,false,false,false,false,false,false,false,false,false,false,false,false,false,false,false,false,false,false,false,false,false,false,false,false,false,false,false,false,false,false,false,false,false,false,false] rfl rfl (by kernel_rfl) (fun _ _ _ h=>h) (Or.inl ⟨by rfl,?_⟩) hHeld ?_ ?_
 rotate_left
 ·intro w' hS
  refine (exec_load_row w' 28 _ (by rfl) w1.heap.size (by rfl) 28 G (0,0) _ hS.2.2.2.2.1 Try.underlying28 rfl hGs.out).trans ?_;show Result.ok (Next.value (Value.agg G)) w'=_;with_reducible rfl
 rotate_left
 ·simp only[Act.put,sZ0,sZ1,sZ2,i64_w,i32_w];rfl
 refine take_ (i:=5) (N:=some 90) (v:=?_) (a':=?_) #[true,true,true,true,false,true,false,false,false,false,false,false,false,false,false,false,false,false,false,false,false,false,false,false,false,false,false,false,false,false,false,false,false,false,false,false,false,false,false,false,false,false,false] rfl rfl (by kernel_rfl) (fun _ _ _ h=>h) (Or.inl ⟨by rfl,?_⟩) hHeld ?_ ?_
 rotate_left
 ·intro w' hS
  refine (exec_load_row w' 39 _ (by rfl) w4.heap.size (by rfl) 39 H (0,0) _ hS.2.2.2.2.2.1 Try.underlying39 rfl hHs.out).trans ?_;show Result.ok (Next.value (Value.agg H)) w'=_;with_reducible rfl
 rotate_left
 ·simp only[Act.put,sZ0,sZ1,sZ2,i64_w,i32_w];rfl
 refine one_ (i:=4) (N:=some 89) #[true,true,true,true,true,true,false,false,false,false,false,false,false,false,false,false,false,false,false,false,false,false,false,false,false,false,false,false,false,false,false,false,false,false,false,false,false,false,false,false,false,false,false] rfl rfl (by kernel_rfl) (by decide) (fun K hK=>?_)
 refine goes_ Try.func15 (by kernel_rfl) rfl #[.agg G] (by rfl) rfl rfl (by (try simp only[List.map_toArray,List.map_cons,List.map_nil]);first | done | rfl) ?_
 refine (hof1.out _).mono ?_
 rintro e w9 ⟨rfl,hb⟩
 refine ⟨_,rfl,?_⟩
 refine hK.out _ _ ⟨below_step hHeld.1 hb,below_step hHeld.2.1 hb,below_step hHeld.2.2.1 hb,below_step hHeld.2.2.2.1 hb,heap_below hHeld.2.2.2.2.1 hb,heap_below hHeld.2.2.2.2.2.1 hb,heap_below hHeld.2.2.2.2.2.2 hb⟩ (fun hHeld=>?_)
 clear hb
 clear hK K;refine norm_ (a':=?_) ?_ ?_
 rotate_left
 ·show Act.put _ (some 89) _=_
  simp only[Act.put,sZ0,sZ1,sZ2,i64_w,i32_w];rfl
 refine one_ (i:=6) (N:=some 91) #[true,true,true,true,true,true,true,false,false,false,false,false,false,false,false,false,false,false,false,false,false,false,false,false,false,false,false,false,false,false,false,false,false,false,false,false,false,false,false,false,false,false,false] rfl rfl (by kernel_rfl) (by decide) (fun K hK=>?_)
 refine goes_ Try.func16 (by kernel_rfl) rfl #[.agg G,.agg H] (by rfl) rfl rfl (by (try simp only[List.map_toArray,List.map_cons,List.map_nil]);first | done | rfl) ?_
 refine (hR1.out _ hHeld.2.1 hHeld.2.2.1).mono ?_
 rintro e w10 ⟨rfl,hb⟩
 refine ⟨_,rfl,?_⟩
 refine hK.out _ _ ⟨below_step hHeld.1 hb,below_step hHeld.2.1 hb,below_step hHeld.2.2.1 hb,below_step hHeld.2.2.2.1 hb,heap_below hHeld.2.2.2.2.1 hb,heap_below hHeld.2.2.2.2.2.1 hb,heap_below hHeld.2.2.2.2.2.2 hb⟩ (fun hHeld=>?_)
 clear hb
 clear hK K;refine norm_ (a':=?_) ?_ ?_
 rotate_left
 ·show Act.put _ (some 91) _=_
  simp only[Act.put,sZ0,sZ1,sZ2,i64_w,i32_w];rfl
 refine pure_ (i:=7) (N:=some 92) (v:=?_) (a':=?_) #[true,true,true,true,true,true,true,true,false,false,false,false,false,false,false,false,false,false,false,false,false,false,false,false,false,false,false,false,false,false,false,false,false,false,false,false,false,false,false,false,false,false,false] rfl rfl (by kernel_rfl) (fun _ _ _ h=>h) (Or.inl ⟨by rfl,?_⟩) ?_ ?_
 rotate_left
 ·intro w';go_simp;with_reducible rfl
 rotate_left
 ·simp only[Act.put,sZ0,sZ1,sZ2,i64_w,i32_w];rfl
 refine pure_ (i:=8) (N:=some 93) (v:=?_) (a':=?_) #[true,true,true,true,true,true,true,true,true,false,false,false,false,false,false,false,false,false,false,false,false,false,false,false,false,false,false,false,false,false,false,false,false,false,false,false,false,false,false,false,false,false,false] rfl rfl (by kernel_rfl) (fun _ _ _ h=>h) (Or.inl ⟨by rfl,?_⟩) ?_ ?_
 rotate_left
 ·intro w';go_simp;with_reducible rfl
 rotate_left
 ·simp only[Act.put,sZ0,sZ1,sZ2,i64_w,i32_w];rfl
 refine pure_ (i:=9) (N:=some 94) (v:=?_) (a':=?_) #[true,true,true,true,true,true,true,true,true,true,false,false,false,false,false,false,false,false,false,false,false,false,false,false,false,false,false,false,false,false,false,false,false,false,false,false,false,false,false,false,false,false,false] rfl rfl (by kernel_rfl) (fun _ _ _ h=>h) (Or.inl ⟨by rfl,?_⟩) ?_ ?_
 rotate_left
 ·intro w';go_simp;with_reducible rfl
 rotate_left
 ·simp only[Act.put,sZ0,sZ1,sZ2,i64_w,i32_w];rfl
 refine pure_ (i:=10) (N:=some 95) (v:=?_) (a':=?_) #[true,true,true,true,true,true,true,true,true,true,true,false,false,false,false,false,false,false,false,false,false,false,false,false,false,false,false,false,false,false,false,false,false,false,false,false,false,false,false,false,false,false,false] rfl rfl (by kernel_rfl) (fun _ _ _ h=>h) (Or.inl ⟨by rfl,?_⟩) ?_ ?_
 rotate_left
 ·intro w';go_simp;with_reducible rfl
 rotate_left
 ·simp only[Act.put,sZ0,sZ1,sZ2,i64_w,i32_w];rfl
 refine pure_ (i:=11) (N:=some 96) (v:=?_) (a':=?_) #[true,true,true,true,true,true,true,true,true,true,true,true,false,false,false,false,false,false,false,false,false,false,false,false,false,false,false,false,false,false,false,false,false,false,false,false,false,false,false,false,false,false,false] rfl rfl (by kernel_rfl) (fun _ _ _ h=>h) (Or.inl ⟨by rfl,?_⟩) ?_ ?_
 rotate_left
 ·intro w'
  refine (exec_slice_lh w' 23 _ Try.underlying23 _ _ _ (by rfl) (.slice X 96 d) (.int .i64 32) (.int .i64 64) _ (by rfl) (by rfl) (by rfl) (sK'.out w')).trans ?_;with_reducible rfl
 rotate_left
 ·simp only[Act.put,sZ0,sZ1,sZ2,i64_w,i32_w];rfl
 refine one_ (i:=12) (N:=some 97) #[true,true,true,true,true,true,true,true,true,true,true,true,true,false,false,false,false,false,false,false,false,false,false,false,false,false,false,false,false,false,false,false,false,false,false,false,false,false,false,false,false,false,false] rfl rfl (by kernel_rfl) (by decide) (fun K hK=>?_)
 refine goes_ Try.func20 (by kernel_rfl) rfl #[.slice X2 32 d2,.slice XK 32 (d - 32)] (by rfl) rfl rfl (by (try simp only[List.map_toArray,List.map_cons,List.map_nil]);first | done | rfl) ?_
 refine (hsbt.out _ KD lk.out X2 d2 XK (d - 32) (Kd.C_below K1.out hHeld.2.1) d2'.out (by rw[← E32.out];exact cK'.out _ (Kd.C_below D4.out hHeld.2.2.1)) (by have:=d96.out;omega)).mono ?_
 rintro e w11 ⟨rfl,hd⟩
 refine ⟨_,rfl,?_⟩
 refine hK.out _ _ ⟨below_step hHeld.1 hd.below,below_step hHeld.2.1 hd.below,below_step hHeld.2.2.1 hd.below,below_step hHeld.2.2.2.1 hd.below,heap_below hHeld.2.2.2.2.1 hd.below,heap_below hHeld.2.2.2.2.2.1 hd.below,heap_below hHeld.2.2.2.2.2.2 hd.below⟩ (fun hHeld=>?_)
 clear hd
 clear hK K;refine norm_ (a':=?_) ?_ ?_
 rotate_left
 ·show Act.put _ (some 97) _=_
  simp only[Act.put,sZ0,sZ1,sZ2,i64_w,i32_w];rfl
 refine pure_ (i:=13) (N:=some 98) (v:=?_) (a':=?_) #[true,true,true,true,true,true,true,true,true,true,true,true,true,true,false,false,false,false,false,false,false,false,false,false,false,false,false,false,false,false,false,false,false,false,false,false,false,false,false,false,false,false,false] rfl rfl (by kernel_rfl) (fun _ _ _ h=>h) (Or.inl ⟨by rfl,?_⟩) ?_ ?_
 rotate_left
 ·intro w';go_simp;with_reducible rfl
 rotate_left
 ·simp only[Act.put,sZ0,sZ1,sZ2,i64_w,i32_w];rfl
 refine pure_ (i:=14) (N:=some 99) (v:=?_) (a':=?_) #[true,true,true,true,true,true,true,true,true,true,true,true,true,true,true,false,false,false,false,false,false,false,false,false,false,false,false,false,false,false,false,false,false,false,false,false,false,false,false,false,false,false,false] rfl rfl (by kernel_rfl) (fun _ _ _ h=>h) (Or.inl ⟨by rfl,?_⟩) ?_ ?_
 rotate_left
 ·intro w';go_simp;with_reducible rfl
 rotate_left
 ·simp only[Act.put,sZ0,sZ1,sZ2,i64_w,i32_w];rfl
 refine pure_ (i:=15) (N:=some 100) (v:=?_) (a':=?_) #[true,true,true,true,true,true,true,true,true,true,true,true,true,true,true,true,false,false,false,false,false,false,false,false,false,false,false,false,false,false,false,false,false,false,false,false,false,false,false,false,false,false,false] rfl rfl (by kernel_rfl) (fun _ _ _ h=>h) (Or.inl ⟨by rfl,?_⟩) ?_ ?_
 rotate_left
 ·intro w';go_simp;with_reducible rfl
 rotate_left
 ·simp only[Act.put,sZ0,sZ1,sZ2,i64_w,i32_w];rfl
 refine pure_ (i:=16) (N:=some 101) (v:=?_) (a':=?_) #[true,true,true,true,true,true,true,true,true,true,true,true,true,true,true,true,true,false,false,false,false,false,false,false,false,false,false,false,false,false,false,false,false,false,false,false,false,false,false,false,false,false,false] rfl rfl (by kernel_rfl) (fun _ _ _ h=>h) (Or.inl ⟨by rfl,?_⟩) ?_ ?_
 rotate_left
 ·intro w';go_simp;with_reducible rfl
 rotate_left
 ·simp only[Act.put,sZ0,sZ1,sZ2,i64_w,i32_w];rfl
 refine pure_ (i:=17) (N:=some 102) (v:=?_) (a':=?_) #[true,true,true,true,true,true,true,true,true,true,true,true,true,true,true,true,true,true,false,false,false,false,false,false,false,false,false,false,false,false,false,false,false,false,false,false,false,false,false,false,false,false,false] rfl rfl (by kernel_rfl) (fun _ _ _ h=>h) (Or.inl ⟨by rfl,?_⟩) ?_ ?_
 rotate_left
 ·intro w';go_simp;with_reducible rfl
 rotate_left
 ·simp only[Act.put,sZ0,sZ1,sZ2,i64_w,i32_w];rfl
 refine pure_ (i:=18) (N:=some 103) (v:=?_) (a':=?_) #[true,true,true,true,true,true,true,true,true,true,true,true,true,true,true,true,true,true,true,false,false,false,false,false,false,false,false,false,false,false,false,false,false,false,false,false,false,false,false,false,false,false,false] rfl rfl (by kernel_rfl) (fun _ _ _ h=>h) (Or.inl ⟨by rfl,?_⟩) ?_ ?_
 rotate_left
 ·intro w';go_simp;with_reducible rfl
 rotate_left
 ·simp only[Act.put,sZ0,sZ1,sZ2,i64_w,i32_w];rfl
 refine pure_ (i:=19) (N:=some 104) (v:=?_) (a':=?_) #[true,true,true,true,true,true,true,true,true,true,true,true,true,true,true,true,true,true,true,true,false,false,false,false,false,false,false,false,false,false,false,false,false,false,false,false,false,false,false,false,false,false,false] rfl rfl (by kernel_rfl) (fun _ _ _ h=>h) (Or.inl ⟨by rfl,?_⟩) ?_ ?_
 rotate_left
 ·intro w';go_simp;with_reducible rfl
 rotate_left
 ·simp only[Act.put,sZ0,sZ1,sZ2,i64_w,i32_w];rfl
 refine pure_ (i:=20) (N:=some 105) (v:=?_) (a':=?_) #[true,true,true,true,true,true,true,true,true,true,true,true,true,true,true,true,true,true,true,true,true,false,false,false,false,false,false,false,false,false,false,false,false,false,false,false,false,false,false,false,false,false,false] rfl rfl (by kernel_rfl) (fun _ _ _ h=>h) (Or.inl ⟨by rfl,?_⟩) ?_ ?_
 rotate_left
 ·intro w';go_simp;with_reducible rfl
 rotate_left
 ·simp only[Act.put,sZ0,sZ1,sZ2,i64_w,i32_w];rfl
 refine pure_ (i:=21) (N:=some 106) (v:=?_) (a':=?_) #[true,true,true,true,true,true,true,true,true,true,true,true,true,true,true,true,true,true,true,true,true,true,false,false,false,false,false,false,false,false,false,false,false,false,false,false,false,false,false,false,false,false,false] rfl rfl (by kernel_rfl) (fun _ _ _ h=>h) (Or.inl ⟨by rfl,?_⟩) ?_ ?_
 rotate_left
 ·intro w';go_simp;with_reducible rfl
 rotate_left
 ·simp only[Act.put,sZ0,sZ1,sZ2,i64_w,i32_w];rfl
 refine pure_ (i:=22) (N:=some 107) (v:=?_) (a':=?_) #[true,true,true,true,true,true,true,true,true,true,true,true,true,true,true,true,true,true,true,true,true,true,true,false,false,false,false,false,false,false,false,false,false,false,false,false,false,false,false,false,false,false,false] rfl rfl (by kernel_rfl) (fun _ _ _ h=>h) (Or.inl ⟨by rfl,?_⟩) ?_ ?_
 rotate_left
 ·intro w';go_simp;with_reducible rfl
 rotate_left
 ·simp only[Act.put,sZ0,sZ1,sZ2,i64_w,i32_w];rfl
 refine take_ (i:=23) (N:=some 108) (v:=?_) (a':=?_) #[true,true,true,true,true,true,true,true,true,true,true,true,true,true,true,true,true,true,true,true,true,true,true,true,false,false,false,false,false,false,false,false,false,false,false,false,false,false,false,false,false,false,false] rfl rfl (by kernel_rfl) (fun _ _ _ h=>h) (Or.inl ⟨by rfl,?_⟩) hHeld ?_ ?_
 rotate_left
 ·intro w' hS
  refine (exec_load_row w' 28 _ (by rfl) w7.heap.size (by rfl) 28 J (0,0) _ hS.2.2.2.2.2.2 Try.underlying28 rfl hJs.out).trans ?_;show Result.ok (Next.value (Value.agg J)) w'=_;with_reducible rfl
 rotate_left
 ·simp only[Act.put,sZ0,sZ1,sZ2,i64_w,i32_w];rfl
 refine take_ (i:=25) (N:=some 110) (v:=?_) (a':=?_) #[true,true,true,true,true,true,true,true,true,true,true,true,true,true,true,true,true,true,true,true,true,true,true,true,false,true,false,false,false,false,false,false,false,false,false,false,false,false,false,false,false,false,false] rfl rfl (by kernel_rfl) (fun _ _ _ h=>h) (Or.inl ⟨by rfl,?_⟩) hHeld ?_ ?_
 rotate_left
 ·intro w' hS
  refine (exec_load_row w' 39 _ (by rfl) w4.heap.size (by rfl) 39 H (0,0) _ hS.2.2.2.2.2.1 Try.underlying39 rfl hHs.out).trans ?_;show Result.ok (Next.value (Value.agg H)) w'=_;with_reducible rfl
 rotate_left
 ·simp only[Act.put,sZ0,sZ1,sZ2,i64_w,i32_w];rfl
 refine one_ (i:=24) (N:=some 109) #[true,true,true,true,true,true,true,true,true,true,true,true,true,true,true,true,true,true,true,true,true,true,true,true,true,true,false,false,false,false,false,false,false,false,false,false,false,false,false,false,false,false,false] rfl rfl (by kernel_rfl) (by decide) (fun K hK=>?_)
 refine goes_ Try.func15 (by kernel_rfl) rfl #[.agg J] (by rfl) rfl rfl (by (try simp only[List.map_toArray,List.map_cons,List.map_nil]);first | done | rfl) ?_
 refine (hof7.out _).mono ?_
 rintro e w12 ⟨rfl,hb⟩
 refine ⟨_,rfl,?_⟩
 refine hK.out _ _ ⟨below_step hHeld.1 hb,below_step hHeld.2.1 hb,below_step hHeld.2.2.1 hb,below_step hHeld.2.2.2.1 hb,heap_below hHeld.2.2.2.2.1 hb,heap_below hHeld.2.2.2.2.2.1 hb,heap_below hHeld.2.2.2.2.2.2 hb⟩ (fun hHeld=>?_)
 clear hb
 clear hK K;refine norm_ (a':=?_) ?_ ?_
 rotate_left
 ·show Act.put _ (some 109) _=_
  simp only[Act.put,sZ0,sZ1,sZ2,i64_w,i32_w];rfl
 refine one_ (i:=26) (N:=some 111) #[true,true,true,true,true,true,true,true,true,true,true,true,true,true,true,true,true,true,true,true,true,true,true,true,true,true,true,false,false,false,false,false,false,false,false,false,false,false,false,false,false,false,false] rfl rfl (by kernel_rfl) (by decide) (fun K hK=>?_)
 refine goes_ Try.func16 (by kernel_rfl) rfl #[.agg J,.agg H] (by rfl) rfl rfl (by (try simp only[List.map_toArray,List.map_cons,List.map_nil]);first | done | rfl) ?_
 refine (hR2.out _ hHeld.2.2.2.1 hHeld.2.2.1).mono ?_
 rintro e w13 ⟨rfl,hb⟩
 refine ⟨_,rfl,?_⟩
 refine hK.out _ _ ⟨below_step hHeld.1 hb,below_step hHeld.2.1 hb,below_step hHeld.2.2.1 hb,below_step hHeld.2.2.2.1 hb,heap_below hHeld.2.2.2.2.1 hb,heap_below hHeld.2.2.2.2.2.1 hb,heap_below hHeld.2.2.2.2.2.2 hb⟩ (fun hHeld=>?_)
 clear hb
 clear hK K;refine norm_ (a':=?_) ?_ ?_
 rotate_left
 ·show Act.put _ (some 111) _=_
  simp only[Act.put,sZ0,sZ1,sZ2,i64_w,i32_w];rfl
 refine pure_ (i:=27) (N:=some 112) (v:=?_) (a':=?_) #[true,true,true,true,true,true,true,true,true,true,true,true,true,true,true,true,true,true,true,true,true,true,true,true,true,true,true,true,false,false,false,false,false,false,false,false,false,false,false,false,false,false,false] rfl rfl (by kernel_rfl) (fun _ _ _ h=>h) (Or.inl ⟨by rfl,?_⟩) ?_ ?_
 rotate_left
 ·intro w';go_simp;with_reducible rfl
 rotate_left
 ·simp only[Act.put,sZ0,sZ1,sZ2,i64_w,i32_w];rfl
 refine pure_ (i:=28) (N:=some 113) (v:=?_) (a':=?_) #[true,true,true,true,true,true,true,true,true,true,true,true,true,true,true,true,true,true,true,true,true,true,true,true,true,true,true,true,true,false,false,false,false,false,false,false,false,false,false,false,false,false,false] rfl rfl (by kernel_rfl) (fun _ _ _ h=>h) (Or.inl ⟨by rfl,?_⟩) ?_ ?_
 rotate_left
 ·intro w';go_simp;with_reducible rfl
 rotate_left
 ·simp only[Act.put,sZ0,sZ1,sZ2,i64_w,i32_w];rfl
 refine pure_ (i:=29) (N:=some 114) (v:=?_) (a':=?_) #[true,true,true,true,true,true,true,true,true,true,true,true,true,true,true,true,true,true,true,true,true,true,true,true,true,true,true,true,true,true,false,false,false,false,false,false,false,false,false,false,false,false,false] rfl rfl (by kernel_rfl) (fun _ _ _ h=>h) (Or.inl ⟨by rfl,?_⟩) ?_ ?_
 rotate_left
 ·intro w';go_simp;with_reducible rfl
 rotate_left
 ·simp only[Act.put,sZ0,sZ1,sZ2,i64_w,i32_w];rfl
 refine pure_ (i:=30) (N:=some 115) (v:=?_) (a':=?_) #[true,true,true,true,true,true,true,true,true,true,true,true,true,true,true,true,true,true,true,true,true,true,true,true,true,true,true,true,true,true,true,false,false,false,false,false,false,false,false,false,false,false,false] rfl rfl (by kernel_rfl) (fun _ _ _ h=>h) (Or.inl ⟨by rfl,?_⟩) ?_ ?_
 rotate_left
 ·intro w';go_simp;with_reducible rfl
 rotate_left
 ·simp only[Act.put,sZ0,sZ1,sZ2,i64_w,i32_w];rfl
 refine pure_ (i:=31) (N:=some 116) (v:=?_) (a':=?_) #[true,true,true,true,true,true,true,true,true,true,true,true,true,true,true,true,true,true,true,true,true,true,true,true,true,true,true,true,true,true,true,true,false,false,false,false,false,false,false,false,false,false,false] rfl rfl (by kernel_rfl) (fun _ _ _ h=>h) (Or.inl ⟨by rfl,?_⟩) ?_ ?_
 rotate_left
 ·intro w'
  refine (exec_slice_h w' 23 _ Try.underlying23 _ _ (by rfl) (.slice X 96 d) (.int .i64 32) _ (by rfl) (by rfl) (hcut0.out w')).trans ?_;with_reducible rfl
 rotate_left
 ·simp only[Act.put,sZ0,sZ1,sZ2,i64_w,i32_w];rfl
 refine one_ (i:=32) (N:=some 117) #[true,true,true,true,true,true,true,true,true,true,true,true,true,true,true,true,true,true,true,true,true,true,true,true,true,true,true,true,true,true,true,true,true,false,false,false,false,false,false,false,false,false,false] rfl rfl (by kernel_rfl) (by decide) (fun K hK=>?_)
 refine goes_ Try.func20 (by kernel_rfl) rfl #[.slice X1 32 u1,.slice X 32 d] (by rfl) rfl rfl (by (try simp only[List.map_toArray,List.map_cons,List.map_nil]);first | done | rfl) ?_
 refine (hsbt.out _ KK l0.out X1 u1 X d (Kd.C_below T1.out hHeld.2.2.2.1) u1'.out (by rw[← E0.out];exact C_take (Kd.C_below D4.out hHeld.2.2.1) 32 (by omega)) (by have:=d96.out;omega)).mono ?_
 rintro e w14 ⟨rfl,hd⟩
 refine ⟨_,rfl,?_⟩
 refine hK.out _ _ ⟨below_step hHeld.1 hd.below,below_step hHeld.2.1 hd.below,below_step hHeld.2.2.1 hd.below,below_step hHeld.2.2.2.1 hd.below,heap_below hHeld.2.2.2.2.1 hd.below,heap_below hHeld.2.2.2.2.2.1 hd.below,heap_below hHeld.2.2.2.2.2.2 hd.below⟩ (fun hHeld=>?_)
 clear hd
 clear hK K;refine norm_ (a':=?_) ?_ ?_
 rotate_left
 ·show Act.put _ (some 117) _=_
  simp only[Act.put,sZ0,sZ1,sZ2,i64_w,i32_w];rfl
 refine pure_ (i:=33) (N:=some 118) (v:=?_) (a':=?_) #[true,true,true,true,true,true,true,true,true,true,true,true,true,true,true,true,true,true,true,true,true,true,true,true,true,true,true,true,true,true,true,true,true,true,false,false,false,false,false,false,false,false,false] rfl rfl (by kernel_rfl) (fun _ _ _ h=>h) (Or.inl ⟨by rfl,?_⟩) ?_ ?_
 rotate_left
 ·intro w';go_simp;with_reducible rfl
 rotate_left
 ·simp only[Act.put,sZ0,sZ1,sZ2,i64_w,i32_w];rfl
 refine pure_ (i:=34) (N:=some 119) (v:=?_) (a':=?_) #[true,true,true,true,true,true,true,true,true,true,true,true,true,true,true,true,true,true,true,true,true,true,true,true,true,true,true,true,true,true,true,true,true,true,true,false,false,false,false,false,false,false,false] rfl rfl (by kernel_rfl) (fun _ _ _ h=>h) (Or.inl ⟨by rfl,?_⟩) ?_ ?_
 rotate_left
 ·intro w';go_simp;with_reducible rfl
 rotate_left
 ·simp only[Act.put,sZ0,sZ1,sZ2,i64_w,i32_w];rfl
 refine pure_ (i:=35) (N:=some 120) (v:=?_) (a':=?_) #[true,true,true,true,true,true,true,true,true,true,true,true,true,true,true,true,true,true,true,true,true,true,true,true,true,true,true,true,true,true,true,true,true,true,true,true,false,false,false,false,false,false,false] rfl rfl (by kernel_rfl) (fun _ _ _ h=>h) (Or.inl ⟨by rfl,?_⟩) ?_ ?_
 rotate_left
 ·intro w';go_simp;with_reducible rfl
 rotate_left
 ·simp only[Act.put,sZ0,sZ1,sZ2,i64_w,i32_w];rfl
 refine pure_ (i:=36) (N:=some 121) (v:=?_) (a':=?_) #[true,true,true,true,true,true,true,true,true,true,true,true,true,true,true,true,true,true,true,true,true,true,true,true,true,true,true,true,true,true,true,true,true,true,true,true,true,false,false,false,false,false,false] rfl rfl (by kernel_rfl) (fun _ _ _ h=>h) (Or.inl ⟨by rfl,?_⟩) ?_ ?_
 rotate_left
 ·intro w';go_simp;with_reducible rfl
 rotate_left
 ·simp only[Act.put,sZ0,sZ1,sZ2,i64_w,i32_w];rfl
 refine one_ (i:=37) (N:=some 122) #[true,true,true,true,true,true,true,true,true,true,true,true,true,true,true,true,true,true,true,true,true,true,true,true,true,true,true,true,true,true,true,true,true,true,true,true,true,true,false,false,false,false,false] rfl rfl (by kernel_rfl) (by decide) (fun K hK=>?_)
 refine goes_ Try.func20 (by kernel_rfl) rfl #[.slice X3 32 u3,.slice X2 32 d2] (by rfl) rfl rfl (by (try simp only[List.map_toArray,List.map_cons,List.map_nil]);first | done | rfl) ?_
 refine (hsbt.out _ KD lk.out X3 u3 X2 d2 (Kd.C_below T3.out hHeld.2.2.2.1) u3'.out (Kd.C_below K1.out hHeld.2.1) d2'.out).mono ?_
 rintro e w15 ⟨rfl,hd⟩
 refine ⟨_,rfl,?_⟩
 refine hK.out _ _ ⟨below_step hHeld.1 hd.below,below_step hHeld.2.1 hd.below,below_step hHeld.2.2.1 hd.below,below_step hHeld.2.2.2.1 hd.below,heap_below hHeld.2.2.2.2.1 hd.below,heap_below hHeld.2.2.2.2.2.1 hd.below,heap_below hHeld.2.2.2.2.2.2 hd.below⟩ (fun hHeld=>?_)
 clear hd
 clear hK K;refine norm_ (a':=?_) ?_ ?_
 rotate_left
 ·show Act.put _ (some 122) _=_
  simp only[Act.put,sZ0,sZ1,sZ2,i64_w,i32_w];rfl
 refine pure_ (i:=38) (N:=some 123) (v:=?_) (a':=?_) #[true,true,true,true,true,true,true,true,true,true,true,true,true,true,true,true,true,true,true,true,true,true,true,true,true,true,true,true,true,true,true,true,true,true,true,true,true,true,true,false,false,false,false] rfl rfl (by kernel_rfl) (fun _ _ _ h=>h) (Or.inl ⟨by rfl,?_⟩) ?_ ?_
 rotate_left
 ·intro w';go_simp;with_reducible rfl
 rotate_left
 ·simp only[Act.put,sZ0,sZ1,sZ2,i64_w,i32_w];rfl
 refine pure_ (i:=39) (N:=some 124) (v:=?_) (a':=?_) #[true,true,true,true,true,true,true,true,true,true,true,true,true,true,true,true,true,true,true,true,true,true,true,true,true,true,true,true,true,true,true,true,true,true,true,true,true,true,true,true,false,false,false] rfl rfl (by kernel_rfl) (fun _ _ _ h=>h) (Or.inl ⟨by rfl,?_⟩) ?_ ?_
 rotate_left
 ·intro w';go_simp;with_reducible rfl
 rotate_left
 ·simp only[Act.put,sZ0,sZ1,sZ2,i64_w,i32_w];rfl
 refine one_ (i:=40) (N:=some 125) #[true,true,true,true,true,true,true,true,true,true,true,true,true,true,true,true,true,true,true,true,true,true,true,true,true,true,true,true,true,true,true,true,true,true,true,true,true,true,true,true,true,false,false] rfl rfl (by kernel_rfl) (by decide) (fun K hK=>?_)
 refine goes_ Try.func10 (by kernel_rfl) rfl #[] (by rfl) rfl rfl (by (try simp only[List.map_toArray,List.map_cons,List.map_nil]);first | done | rfl) ?_
 refine (hawk.out _).mono ?_
 rintro e w16 ⟨rfl,hb⟩
 refine ⟨_,rfl,?_⟩
 refine hK.out _ _ ⟨below_step hHeld.1 hb,below_step hHeld.2.1 hb,below_step hHeld.2.2.1 hb,below_step hHeld.2.2.2.1 hb,heap_below hHeld.2.2.2.2.1 hb,heap_below hHeld.2.2.2.2.2.1 hb,heap_below hHeld.2.2.2.2.2.2 hb⟩ (fun hHeld=>?_)
 have b16:=Lib.hid hHeld.1
 clear hb
 clear hK K;refine norm_ (a':=?_) ?_ ?_
 rotate_left
 ·show Act.put _ (some 125) _=_
  simp only[Act.put,sZ0,sZ1,sZ2,i64_w,i32_w];rfl
 refine pure_ (i:=41) (N:=some 126) (v:=?_) (a':=?_) #[true,true,true,true,true,true,true,true,true,true,true,true,true,true,true,true,true,true,true,true,true,true,true,true,true,true,true,true,true,true,true,true,true,true,true,true,true,true,true,true,true,true,false] rfl rfl (by kernel_rfl) (fun _ _ _ h=>h) (Or.inl ⟨by rfl,?_⟩) ?_ ?_
 rotate_left
 ·intro w';go_simp;with_reducible rfl
 rotate_left
 ·simp only[Act.put,sZ0,sZ1,sZ2,i64_w,i32_w];rfl
 refine pure_ (i:=42) (N:=some 6) (v:=?_) (a':=?_) #[true,true,true,true,true,true,true,true,true,true,true,true,true,true,true,true,true,true,true,true,true,true,true,true,true,true,true,true,true,true,true,true,true,true,true,true,true,true,true,true,true,true,true] rfl rfl (by kernel_rfl) (fun _ _ _ h=>h) (Or.inl ⟨by rfl,?_⟩) ?_ ?_
 rotate_left
 ·intro w';go_simp;with_reducible rfl
 rotate_left
 ·simp only[Act.put,sZ0,sZ1,sZ2,i64_w,i32_w];rfl
 refine done_ (by kernel_rfl) ?_
 go_wp2_with fail
 go_ret
 exact ⟨rfl,b16.out⟩
theorem RecordFirsts_walk (w:World) (A0:Option Addr) (c0:Nat) (x0:List Int) (b0:x0.length≤c0) (C0:Kd.C (Kd.int .u8) w A0 x0.length x0) (w0:x0.length≤140737488351232∧∀ x ∈ x0,(Lit.int .u8 x).wf=true) (A1:Option Addr) (c1:Nat) (x1:List Int) (b1:x1.length≤c1) (C1:Kd.C (Kd.int .u8) w A1 x1.length x1) (w1:x1.length≤140737488351232∧∀ x ∈ x1,(Lit.int .u8 x).wf=true) (a2:Int) (w2:(Lit.int .i64 a2).wf=true) :
  Calls Try.prog 8 #[.slice A0 x0.length c0,.slice A1 x1.length c1,.int .i64 a2] w fun e w'=>e=.returned (.bool true)∧Below w.heap.size w w':=by
 by_cases h4:4<a2∧a2≤1000
 ·exact firsts_big A0 _ c0 A1 _ c1 a2 w (.inl h4)
 by_cases hs:x1.length≤100
 ·by_cases hp:x0.length≤100
  ·by_cases h16:x1.length=16
   ·cases hr:rightB x0.length a2 with
    |false=>exact firsts_no A0 c0 x0 A1 c1 x1 a2 w C0 b0 (byt_wf w0.2) C1 b1 (byt_wf w1.2) h4 hp hs h16 hr
    |true=>exact firsts_ok A0 c0 x0 A1 c1 x1 a2 w C0 b0 (byt_wf w0.2) C1 b1 (byt_wf w1.2) h4 h16 hr
   exact firsts_salt A0 c0 x0 A1 c1 x1 a2 w C0 b0 (byt_wf w0.2) C1 b1 (byt_wf w1.2) h4 hp hs h16
  exact firsts_big A0 _ c0 A1 _ c1 a2 w (.inr (.inr ⟨h4,hs,by omega⟩))
 exact firsts_big A0 _ c0 A1 _ c1 a2 w (.inr (.inl ⟨h4,by omega⟩))
end Go.Proofs.Ytbajioiiaamokaa.Own
