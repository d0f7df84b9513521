/- OpL, pruned (slim.py). -/
import Derived.Test.YtbajioiiaamokaaZO49
namespace Go.Proofs.Ytbajioiiaamokaa.Own
open Go.RowKit Go.Proofs.Ytbajioiiaamokaa.Arr Go.Proofs.Ytbajioiiaamokaa.QB Go.Proofs.YtbajioiiaamokaaW.PrintWords Go.Proofs.YtbajioiiaamokaaW.PrintLast Go.Proofs.YtbajioiiaamokaaW.PrintMore
set_option linter.unusedVariables false
set_option linter.unusedSimpArgs false
attribute [-go_sem] Instr.build
section
variable {P:Program} {ops:Array Oper} {rest:List Oper} {o:Oper} {a:Act} {w:World} {Q:Exit→Act→World→Prop}
theorem wpList_slice_lh (hg:o.guard=none) (ty e:TypeId) (hu:P.underlying ty=some (.slice e)) (x lo hi:Operand) (ho:o.op=.slice ty x (some lo) (some hi) none) (vx vl vh v:Value) (hx:a.eval x=vx) (hl:a.eval lo=vl) (hh:a.eval hi=vh)
  (hr:(Instr.slice ty vx (some vl) (some vh) none).run P w=.ok v w) (h:wpList P ops Q rest (a.put o.dst v) w):wpList P ops Q (o :: rest) a w:=by
 refine wpList_plain hg fun _ hK=>?_
 unfold Oper.wp
 rw[exec_slice_lh w ty e hu x lo hi ho vx vl vh v hx hl hh hr]
 exact hK _ _ h
end
set_option maxHeartbeats 8000000 in
set_option maxRecDepth 100000 in
theorem opens_big (A:Option Addr) (n c:Nat) (A1:Option Addr) (m c1:Nat) (r:Int) (w:World) (h4:4<r) (h5:r≤1000) :
  Calls Try.prog 7 #[.slice A n c,.slice A1 m c1,.int .i64 r] w fun e w'=>e=.returned (.bool true)∧Below w.heap.size w w':=by
 have hawk:=Lib.hid awake18_any
 have b0:=Lib.hid (Below.refl w.heap.size w)
 go_enter Try.func7,Try.ntmps7
 go_wp2_with (first
  |((with_reducible go_at_call 10);refine (hawk.out _).mono ?_;rintro e w1 ⟨rfl,hb⟩;have b1:=Lib.hid (below_step b0.out hb);clear hb))
 go_ret
 exact ⟨rfl,b1.out⟩
set_option maxHeartbeats 8000000 in
set_option maxRecDepth 100000 in
theorem opens_short (A:Option Addr) (c:Nat) (l:List Int) (A1:Option Addr) (c1:Nat) (pass:List Int) (r:Int) (w:World) (hC:Kd.C (Kd.int .u8) w A l.length l) (hc:l.length≤c) (hb:∀ x ∈ l,byt x) (hC1:Kd.C (Kd.int .u8) w A1 pass.length pass) (hc1:pass.length≤c1) (hpb:∀ x ∈ pass,byt x) (hr4 : ¬ (4<r∧r≤1000)) (hl:l.length≠624) :
  Calls Try.prog 7 #[.slice A l.length c,.slice A1 pass.length c1,.int .i64 r] w fun e w'=>e=.returned (.bool true)∧Below w.heap.size w w':=by
 obtain ⟨hz,-⟩:=zero_of_info (P:=Try.prog) infoRc
 obtain ⟨hzr,-⟩:=zero_of_info (P:=Try.prog) infoRr
 obtain ⟨Z,hZ⟩:∃ Z:Array Value,Z=zRc:=⟨_,rfl⟩
 have hW0:∀ (W:World),(Instr.build 39 #[]).run Try.prog W=.ok (.agg Z) W:=fun W=>by rw[hZ];exact run_build W _ _ _ builtRr0
 have hZs:=Lib.hid (show (Try.prog.info? 28).map (·.size)=some Z.size by rw[hZ];exact szRc)
 have hZr:=Lib.hid (show (Try.prog.info? 39).map (·.size)=some Z.size by rw[hZ];exact szRr)
 have hZo:=Lib.hid (show Z.all (·.oneCell')=true by rw[hZ];exact rcl_one _ _ _)
 have hZ25:=Lib.hid (show Z.size=25 by rw[hZ];rfl)
 rw[← hZ] at hz hzr
 have hawk:=Lib.hid awake18_any
 have hof:=Lib.hid (fun (W:World)=>show Calls Try.prog 15 #[.agg Z] W (fun e w'=>e=.returned (.agg Z)∧Below W.heap.size W w') from by rw[hZ];exact of18_any rcZero (fun _=>none) (fun _=>0) W)
 have hsm:=Lib.hid (fun (W:World)=>show Calls Try.prog 16 #[.agg Z,.agg Z] W _ from by rw[hZ];exact recSame_eq rcZero (fun _=>none) (fun _=>0) (fun _=>none) (fun _=>0) W (RcV.zero W) (RcV.zero W) (fun j _=>rlist_zero j))
 have hopen:=Lib.hid (recOpen_short A c l A1 c1 pass r w l.length hl)
 rw[← hZ] at hopen
 have hnb:r≤4∨1000<r:=by omega
 obtain ⟨np,hnp⟩:∃ n,n=pass.length:=⟨_,rfl⟩
 rw[← hnp] at hopen ⊢
 obtain ⟨n,hn⟩:∃ n,n=l.length:=⟨_,rfl⟩
 rw[← hn] at hopen hl ⊢
 have hn1:((n:Int)=624)=False:=by simp;omega
 have hn2:((n:Int) == 624)=false:=by simp;omega
 have hn3:((n:Int) != 624)=true:=by simp;omega
 clear hn
 clear hnp hZ hC hc hb hC1 hc1 hpb hr4 hl
 go_enter Try.func7,Try.ntmps7
 go_upto_region 1 with fail
 go_cut [20] (fun v w'=>v=.bool false∧w=w')
 case first=>
  rcases hnb with hnb | hnb
  ·go_wp2_with fail
   go_meet
   exact ⟨rfl,rfl⟩
  have hq1:4<r:=by omega
  have hq2:(r≤1000)=False:=by simp;omega
  have hq3:decide (r≤1000)=false:=by simp;omega
  go_wp2_with fail
  go_meet
  exact ⟨rfl,rfl⟩
 case rest=>
  obtain ⟨rfl,rfl⟩:=hcut
  clear hnb
  go_wp2_with (first
   |((with_reducible go_at_call 36);refine hopen.out.mono ?_;rintro e w1 ⟨rfl,hb⟩;have b1:=Lib.hid hb;clear hb)
   |(with_reducible refine wpList_store_row rfl 28 _ _ rfl w1.heap.size Z rfl rfl 28 Z (heap_alloc_last _ _) hZs.out rfl hZo.out ?_;have bx2:=Lib.hid (below_setRow ((Below.refl w1.heap.size w1).alloc (Nat.le_refl _) (.cells Z 28 (0,0))) (Nat.le_refl _) Z);have g2:=Lib.hid (setRow_heap (w1.alloc (.cells Z 28 (0,0))) w1.heap.size Z Z 28 (0,0) (heap_alloc_last _ _));generalize (w1.alloc (.cells Z 28 (0,0))).setRow w1.heap.size Z=w2 at *;have b2:=Lib.hid (below_step b1.out bx2.out))
   |((with_reducible refine wpList_load_row_on ?_ 28 _ rfl w1.heap.size rfl 28 Z (0,0) _ g2.out Try.underlying28 rfl hZs.out ?_);exact rfl)
   |((with_reducible go_at_call 15);refine (hof.out _).mono ?_;rintro e w3 ⟨rfl,hb⟩;have b3:=Lib.hid (below_step b2.out hb);clear hb)
   |((with_reducible go_at_call 16);refine (hsm.out _).mono ?_;rintro e w4 ⟨rfl,hb⟩;have b4:=Lib.hid (below_step b3.out hb);clear hb)
   |((with_reducible go_at_call 10);refine (hawk.out _).mono ?_;rintro e w5 ⟨rfl,hb⟩;have b5:=Lib.hid (below_step b4.out hb);clear hb))
  go_ret
  exact ⟨rfl,b5.out⟩
set_option maxHeartbeats 8000000 in
set_option maxRecDepth 100000 in
theorem opens_none (A:Option Addr) (c:Nat) (l:List Int) (A1:Option Addr) (c1:Nat) (pass:List Int) (r:Int) (w:World) (hC:Kd.C (Kd.int .u8) w A l.length l) (hc:l.length≤c) (hb:∀ x ∈ l,byt x) (hC1:Kd.C (Kd.int .u8) w A1 pass.length pass) (hc1:pass.length≤c1) (hpb:∀ x ∈ pass,byt x) (hr4 : ¬ (4<r∧r≤1000)) (hl:l.length=624) (ho:rcRead l=none) :
  Calls Try.prog 7 #[.slice A l.length c,.slice A1 pass.length c1,.int .i64 r] w fun e w'=>e=.returned (.bool true)∧Below w.heap.size w w':=by
 obtain ⟨hz,-⟩:=zero_of_info (P:=Try.prog) infoRc
 obtain ⟨hzr,-⟩:=zero_of_info (P:=Try.prog) infoRr
 obtain ⟨Z,hZ⟩:∃ Z:Array Value,Z=zRc:=⟨_,rfl⟩
 have hW0:∀ (W:World),(Instr.build 39 #[]).run Try.prog W=.ok (.agg Z) W:=fun W=>by rw[hZ];exact run_build W _ _ _ builtRr0
 have hZs:=Lib.hid (show (Try.prog.info? 28).map (·.size)=some Z.size by rw[hZ];exact szRc)
 have hZr:=Lib.hid (show (Try.prog.info? 39).map (·.size)=some Z.size by rw[hZ];exact szRr)
 have hZo:=Lib.hid (show Z.all (·.oneCell')=true by rw[hZ];exact rcl_one _ _ _)
 have hZ25:=Lib.hid (show Z.size=25 by rw[hZ];rfl)
 rw[← hZ] at hz hzr
 have hawk:=Lib.hid awake18_any
 have hof:=Lib.hid (fun (W:World)=>show Calls Try.prog 15 #[.agg Z] W (fun e w'=>e=.returned (.agg Z)∧Below W.heap.size W w') from by rw[hZ];exact of18_any rcZero (fun _=>none) (fun _=>0) W)
 have hsm:=Lib.hid (fun (W:World)=>show Calls Try.prog 16 #[.agg Z,.agg Z] W _ from by rw[hZ];exact recSame_eq rcZero (fun _=>none) (fun _=>0) (fun _=>none) (fun _=>0) W (RcV.zero W) (RcV.zero W) (fun j _=>rlist_zero j))
 have hopen:=Lib.hid (recOpen_none A c l A1 c1 pass r w hC hc hl hb ho)
 rw[← hZ] at hopen
 have hrr:=Lib.hid (fun (W:World) (hW:Below w.heap.size w W)=>show Calls Try.prog 35 #[.slice A 624 c] W (fun e w'=>∃ AX cX,e=.returned (.tuple #[.agg (rcl rcZero AX cX).toArray,.bool false])∧RcV w rcZero AX cX∧Below W.heap.size W w') from by
  have:=ref18Read_any w A c l hl (by omega) hb W hC hW
  rw[ho] at this
  exact this)
 have hnb:r≤4∨1000<r:=by omega
 rw[hl] at hopen ⊢
 obtain ⟨np,hnp⟩:∃ n,n=pass.length:=⟨_,rfl⟩
 rw[← hnp] at hopen ⊢
 clear hnp hZ hC hc hb hC1 hc1 hpb hr4 hl ho
 go_enter Try.func7,Try.ntmps7
 go_upto_region 1 with fail
 go_cut [20] (fun v w'=>v=.bool false∧w=w')
 case first=>
  rcases hnb with hnb | hnb
  ·go_wp2_with fail
   go_meet
   exact ⟨rfl,rfl⟩
  have hq1:4<r:=by omega
  have hq2:(r≤1000)=False:=by simp;omega
  have hq3:decide (r≤1000)=false:=by simp;omega
  go_wp2_with fail
  go_meet
  exact ⟨rfl,rfl⟩
 case rest=>
  obtain ⟨rfl,rfl⟩:=hcut
  clear hnb
  go_wp2_with (first
   |((with_reducible go_at_call 36);refine hopen.out.mono ?_;rintro e w1 ⟨rfl,hb⟩;have b1:=Lib.hid hb;clear hb)
   |(with_reducible refine wpList_store_row rfl 28 _ _ rfl w1.heap.size Z rfl rfl 28 Z (heap_alloc_last _ _) hZs.out rfl hZo.out ?_;have bx2:=Lib.hid (below_setRow ((Below.refl w1.heap.size w1).alloc (Nat.le_refl _) (.cells Z 28 (0,0))) (Nat.le_refl _) Z);have g2:=Lib.hid (setRow_heap (w1.alloc (.cells Z 28 (0,0))) w1.heap.size Z Z 28 (0,0) (heap_alloc_last _ _));generalize (w1.alloc (.cells Z 28 (0,0))).setRow w1.heap.size Z=w2 at *;have b2:=Lib.hid (below_step b1.out bx2.out))
   |((with_reducible refine wpList_load_row_on ?_ 28 _ rfl w1.heap.size rfl 28 Z (0,0) _ g2.out Try.underlying28 rfl hZs.out ?_);exact rfl)
   |((with_reducible go_at_call 15);refine (hof.out _).mono ?_;rintro e w3 ⟨rfl,hb⟩;have b3:=Lib.hid (below_step b2.out hb);clear hb)
   |((with_reducible go_at_call 16);refine (hsm.out _).mono ?_;rintro e w4 ⟨rfl,hb⟩;have b4:=Lib.hid (below_step b3.out hb);clear hb)
   |((with_reducible go_at_call 35);refine (hrr.out _ b4.out).mono ?_;rintro e w5 ⟨AY,cY,rfl,hVY,hb⟩;have b5:=Lib.hid (below_step b4.out hb);obtain ⟨H,hH⟩:∃ H,H=(rcl rcZero AY cY).toArray:=⟨_,rfl⟩;rw[← hH];have hHr:=Lib.hid (show (Try.prog.info? 39).map (·.size)=some H.size by rw[hH];exact szRr);have hHo:=Lib.hid (show H.all (·.oneCell')=true by rw[hH];exact rcl_one _ _ _);have hHZ:=Lib.hid (show Z.size=H.size by rw[hZ25.out,hH];rfl);have hH':=Lib.hid hH;have VY:=Lib.hid hVY;clear hb hVY hH)
   |(with_reducible refine wpList_store_row rfl 39 _ _ rfl w5.heap.size H rfl rfl 39 Z (heap_alloc_last _ _) hHr.out hHZ.out hHo.out ?_;have bx6:=Lib.hid (below_setRow ((Below.refl w5.heap.size w5).alloc (Nat.le_refl _) (.cells Z 39 (0,0))) (Nat.le_refl _) H);have q6:=Lib.hid (setRow_heap (w5.alloc (.cells Z 39 (0,0))) w5.heap.size Z H 39 (0,0) (heap_alloc_last _ _));generalize (w5.alloc (.cells Z 39 (0,0))).setRow w5.heap.size H=w6 at *;have b6:=Lib.hid (below_step b5.out bx6.out))
   |((with_reducible go_at_call 10);refine (hawk.out _).mono ?_;rintro e w7 ⟨rfl,hb⟩;have b7:=Lib.hid (below_step b6.out hb);clear hb))
  go_ret
  exact ⟨rfl,b7.out⟩
set_option maxHeartbeats 8000000 in
set_option maxRecDepth 100000 in
theorem opens_no (A:Option Addr) (c:Nat) (l:List Int) (A1:Option Addr) (c1:Nat) (pass:List Int) (r:Int) (w:World) (hC:Kd.C (Kd.int .u8) w A l.length l) (hc:l.length≤c) (hb:∀ x ∈ l,byt x) (hC1:Kd.C (Kd.int .u8) w A1 pass.length pass) (hc1:pass.length≤c1) (hpb:∀ x ∈ pass,byt x) (hr4 : ¬ (4<r∧r≤1000)) (hl:l.length=624) (R:RcT) (ho:rcRead l=some R) (hr:rightB pass.length r=false) :
  Calls Try.prog 7 #[.slice A l.length c,.slice A1 pass.length c1,.int .i64 r] w fun e w'=>e=.returned (.bool true)∧Below w.heap.size w w':=by
 obtain ⟨hz,-⟩:=zero_of_info (P:=Try.prog) infoRc
 obtain ⟨hzr,-⟩:=zero_of_info (P:=Try.prog) infoRr
 obtain ⟨Z,hZ⟩:∃ Z:Array Value,Z=zRc:=⟨_,rfl⟩
 have hW0:∀ (W:World),(Instr.build 39 #[]).run Try.prog W=.ok (.agg Z) W:=fun W=>by rw[hZ];exact run_build W _ _ _ builtRr0
 have hZs:=Lib.hid (show (Try.prog.info? 28).map (·.size)=some Z.size by rw[hZ];exact szRc)
 have hZr:=Lib.hid (show (Try.prog.info? 39).map (·.size)=some Z.size by rw[hZ];exact szRr)
 have hZo:=Lib.hid (show Z.all (·.oneCell')=true by rw[hZ];exact rcl_one _ _ _)
 have hZ25:=Lib.hid (show Z.size=25 by rw[hZ];rfl)
 rw[← hZ] at hz hzr
 have hawk:=Lib.hid awake18_any
 have hof:=Lib.hid (fun (W:World)=>show Calls Try.prog 15 #[.agg Z] W (fun e w'=>e=.returned (.agg Z)∧Below W.heap.size W w') from by rw[hZ];exact of18_any rcZero (fun _=>none) (fun _=>0) W)
 have hsm:=Lib.hid (fun (W:World)=>show Calls Try.prog 16 #[.agg Z,.agg Z] W _ from by rw[hZ];exact recSame_eq rcZero (fun _=>none) (fun _=>0) (fun _=>none) (fun _=>0) W (RcV.zero W) (RcV.zero W) (fun j _=>rlist_zero j))
 have hs16:=rcRead_salt ho hl
 have hk32:=rcRead_check ho hl
 have hopen:=Lib.hid (recOpen_no A c l A1 c1 pass r w hC hc hl hb R ho hC1 hc1 hr)
 rw[← hZ] at hopen
 have hrr:=Lib.hid (fun (W:World) (hW:Below w.heap.size w W)=>show Calls Try.prog 35 #[.slice A 624 c] W (fun e w'=>∃ AX cX,e=.returned (.tuple #[.agg (rcl R AX cX).toArray,.bool true])∧RcV w R AX cX∧Below W.heap.size W w') from by
  have:=ref18Read_any w A c l hl (by omega) hb W hC hW
  rw[ho] at this
  exact this)
 have hright:=Lib.hid (fun (W:World) (hW:Below w.heap.size w W)=>rRight_any pass r false hr A1 c1 W (Kd.C_below hC1 hW) hc1)
 have hnb:r≤4∨1000<r:=by omega
 rw[hl] at hopen ⊢
 obtain ⟨np,hnp⟩:∃ n,n=pass.length:=⟨_,rfl⟩
 rw[← hnp] at hopen hright ⊢
 clear hnp hZ hC hc hb hC1 hc1 hpb hr4 hl ho hr hs16 hk32
 go_enter Try.func7,Try.ntmps7
 go_upto_region 1 with fail
 go_cut [20] (fun v w'=>v=.bool false∧w=w')
 case first=>
  rcases hnb with hnb | hnb
  ·go_wp2_with fail
   go_meet
   exact ⟨rfl,rfl⟩
  have hq1:4<r:=by omega
  have hq2:(r≤1000)=False:=by simp;omega
  have hq3:decide (r≤1000)=false:=by simp;omega
  go_wp2_with fail
  go_meet
  exact ⟨rfl,rfl⟩
 case rest=>
  obtain ⟨rfl,rfl⟩:=hcut
  clear hnb
  go_wp2_with (first
   |((with_reducible go_at_call 36);refine hopen.out.mono ?_;rintro e w1 ⟨rfl,hb⟩;have b1:=Lib.hid hb;clear hb)
   |(with_reducible refine wpList_store_row rfl 28 _ _ rfl w1.heap.size Z rfl rfl 28 Z (heap_alloc_last _ _) hZs.out rfl hZo.out ?_;have bx2:=Lib.hid (below_setRow ((Below.refl w1.heap.size w1).alloc (Nat.le_refl _) (.cells Z 28 (0,0))) (Nat.le_refl _) Z);have g2:=Lib.hid (setRow_heap (w1.alloc (.cells Z 28 (0,0))) w1.heap.size Z Z 28 (0,0) (heap_alloc_last _ _));generalize (w1.alloc (.cells Z 28 (0,0))).setRow w1.heap.size Z=w2 at *;have b2:=Lib.hid (below_step b1.out bx2.out))
   |((with_reducible refine wpList_load_row_on ?_ 28 _ rfl w1.heap.size rfl 28 Z (0,0) _ g2.out Try.underlying28 rfl hZs.out ?_);exact rfl)
   |((with_reducible go_at_call 15);refine (hof.out _).mono ?_;rintro e w3 ⟨rfl,hb⟩;have b3:=Lib.hid (below_step b2.out hb);clear hb)
   |((with_reducible go_at_call 16);refine (hsm.out _).mono ?_;rintro e w4 ⟨rfl,hb⟩;have b4:=Lib.hid (below_step b3.out hb);clear hb)
   |((with_reducible go_at_call 35);refine (hrr.out _ b4.out).mono ?_;rintro e w5 ⟨AY,cY,rfl,hVY,hb⟩;have b5:=Lib.hid (below_step b4.out hb);obtain ⟨H,hH⟩:∃ H,H=(rcl R AY cY).toArray:=⟨_,rfl⟩;rw[← hH];have hHr:=Lib.hid (show (Try.prog.info? 39).map (·.size)=some H.size by rw[hH];exact szRr);have hHo:=Lib.hid (show H.all (·.oneCell')=true by rw[hH];exact rcl_one _ _ _);have hHZ:=Lib.hid (show Z.size=H.size by rw[hZ25.out,hH];rfl);have hH':=Lib.hid hH;have VY:=Lib.hid hVY;clear hb hVY hH)
   |(with_reducible refine wpList_store_row rfl 39 _ _ rfl w5.heap.size H rfl rfl 39 Z (heap_alloc_last _ _) hHr.out hHZ.out hHo.out ?_;have bx6:=Lib.hid (below_setRow ((Below.refl w5.heap.size w5).alloc (Nat.le_refl _) (.cells Z 39 (0,0))) (Nat.le_refl _) H);have q6:=Lib.hid (setRow_heap (w5.alloc (.cells Z 39 (0,0))) w5.heap.size Z H 39 (0,0) (heap_alloc_last _ _));generalize (w5.alloc (.cells Z 39 (0,0))).setRow w5.heap.size H=w6 at *;have b6:=Lib.hid (below_step b5.out bx6.out))
   |((with_reducible go_at_call 37);refine (hright.out _ b6.out).mono ?_;rintro e w7 ⟨rfl,hd⟩;have b7:=Lib.hid (below_step b6.out hd.below);have q7:=Lib.hid (heap_below q6.out hd.below);clear hd)
   |((with_reducible go_at_call 10);refine (hawk.out _).mono ?_;rintro e w8 ⟨rfl,hb⟩;have b8:=Lib.hid (below_step b7.out hb);clear hb))
  go_ret
  exact ⟨rfl,b8.out⟩
set_option maxHeartbeats 8000000 in
set_option maxRecDepth 100000 in
theorem opens_nine (A:Option Addr) (c:Nat) (l:List Int) (A1:Option Addr) (c1:Nat) (pass:List Int) (r:Int) (w:World) (hC:Kd.C (Kd.int .u8) w A l.length l) (hc:l.length≤c) (hb:∀ x ∈ l,byt x) (hC1:Kd.C (Kd.int .u8) w A1 pass.length pass) (hc1:pass.length≤c1) (hpb:∀ x ∈ pass,byt x) (hr4 : ¬ (4<r∧r≤1000)) (hl:l.length=624) (R:RcT) (ho:rcRead l=some R) (hr:rightB pass.length r=true) (hk:checkD pass R.salt r≠R.check) :
  Calls Try.prog 7 #[.slice A l.length c,.slice A1 pass.length c1,.int .i64 r] w fun e w'=>e=.returned (.bool true)∧Below w.heap.size w w':=by
 obtain ⟨hz,-⟩:=zero_of_info (P:=Try.prog) infoRc
 obtain ⟨hzr,-⟩:=zero_of_info (P:=Try.prog) infoRr
 obtain ⟨Z,hZ⟩:∃ Z:Array Value,Z=zRc:=⟨_,rfl⟩
 have hW0:∀ (W:World),(Instr.build 39 #[]).run Try.prog W=.ok (.agg Z) W:=fun W=>by rw[hZ];exact run_build W _ _ _ builtRr0
 have hZs:=Lib.hid (show (Try.prog.info? 28).map (·.size)=some Z.size by rw[hZ];exact szRc)
 have hZr:=Lib.hid (show (Try.prog.info? 39).map (·.size)=some Z.size by rw[hZ];exact szRr)
 have hZo:=Lib.hid (show Z.all (·.oneCell')=true by rw[hZ];exact rcl_one _ _ _)
 have hZ25:=Lib.hid (show Z.size=25 by rw[hZ];rfl)
 rw[← hZ] at hz hzr
 have hawk:=Lib.hid awake18_any
 have hof:=Lib.hid (fun (W:World)=>show Calls Try.prog 15 #[.agg Z] W (fun e w'=>e=.returned (.agg Z)∧Below W.heap.size W w') from by rw[hZ];exact of18_any rcZero (fun _=>none) (fun _=>0) W)
 have hsm:=Lib.hid (fun (W:World)=>show Calls Try.prog 16 #[.agg Z,.agg Z] W _ from by rw[hZ];exact recSame_eq rcZero (fun _=>none) (fun _=>0) (fun _=>none) (fun _=>0) W (RcV.zero W) (RcV.zero W) (fun j _=>rlist_zero j))
 have hs16:=rcRead_salt ho hl
 have hk32:=rcRead_check ho hl
 have hopen:=Lib.hid (recOpen_nine A c l A1 c1 pass r w hC hc hl hb R ho hC1 hc1 hr hk)
 rw[← hZ] at hopen
 have hrr:=Lib.hid (fun (W:World) (hW:Below w.heap.size w W)=>show Calls Try.prog 35 #[.slice A 624 c] W (fun e w'=>∃ AX cX,e=.returned (.tuple #[.agg (rcl R AX cX).toArray,.bool true])∧RcV w R AX cX∧Below W.heap.size W w') from by
  have:=ref18Read_any w A c l hl (by omega) hb W hC hW
  rw[ho] at this
  exact this)
 have hright:=Lib.hid (fun (W:World) (hW:Below w.heap.size w W)=>rRight_any pass r true hr A1 c1 W (Kd.C_below hC1 hW) hc1)
 obtain ⟨hrp,hr1,hr2⟩:=right_of hr
 obtain ⟨hsb,hkb⟩:=rcRead_byt ho hb
 obtain ⟨D,hD⟩:∃ D,D=bytesD (blockL pass) R.salt r.toNat 96:=⟨_,rfl⟩
 have hDl:D.length=96:=by rw[hD];exact bytesD_length _ _ _ _ (by decide)
 have hDb:∀ x ∈ D,byt x:=by rw[hD];exact byt_bytesD _ _ _ _
 have e64:D.drop 64=checkD pass R.salt r:=by unfold checkD;rw[← hD,List.take_of_length_le (by rw[List.length_drop];omega)]
 have e32:(D.take 64).drop 32=keyD pass R.salt r:=by unfold keyD;rw[← hD,List.drop_take]
 have e0:D.take 32=kekD pass R.salt r:=by unfold kekD;rw[← hD,List.drop_zero]
 have hcel:=Lib.hid (fun (W:World) (AY:Nat→Option Addr) (cY:Nat→Nat) (H:Array Value) (hH:H=(rcl R AY cY).toArray) (g:Nat) (h:W.heap[g]?=some (.cells H 39 (0,0)))=>show W.cell? ⟨g,2,none⟩=some (.slice (AY 0) 16 (cY 0))∧W.cell? ⟨g,4,none⟩=some (.slice (AY 1) 32 (cY 1)) from by
  obtain ⟨-,-,q2,-,q4⟩:=rc_head (r:=R) (A:=AY) (c:=cY) (by rw[hH] at h;exact h)
  rw[hs16] at q2
  rw[hk32] at q4
  exact ⟨q2,q4⟩)
 have hbyt:=Lib.hid (fun (W:World) (hW:Below w.heap.size w W) (AY:Nat→Option Addr) (cY:Nat→Nat) (hV:RcV W R AY cY)=>show Calls Try.prog 38 #[.slice A1 pass.length c1,.slice (AY 0) 16 (cY 0),.int .i64 r,.int .i64 96] W (fun e w'=>∃ X d,e=.returned (.slice X 96 d)∧96≤d∧Kd.C (Kd.int .u8) w' X 96 D∧Below W.heap.size W w') from by
  have:=rBytes_any pass R.salt hpb hsb (by omega) (by omega) r hr1 hr2 96 (by decide) A1 c1 (AY 0) (cY 0) W (Kd.C_below hC1 hW) hc1 (hV 0 (by omega)).1 (hV 0 (by omega)).2
  rw[hs16] at this
  refine this.mono ?_
  rintro e w' ⟨v,rfl,⟨X,d,rfl,hd,hX,-⟩,hbl⟩
  rw[← hD] at hd hX ⊢
  rw[hDl] at hd hX ⊢
  exact ⟨X,d,rfl,hd,hX,hbl⟩)
 have hcutc:=Lib.hid (fun (X:Option Addr) (d:Nat) (hd:96≤d)=>by have:=cutF X 96 d 64 D (by omega) hd;exact this)
 have hcutk:=Lib.hid (fun (X:Option Addr) (d:Nat) (hd:96≤d)=>by have:=cutB X 96 d 32 64 D (by omega) (by omega) hd;exact this)
 have hsbt:=Lib.hid (fun (W:World) (a bb:List Int) (h32:a.length=32) (h33:bb.length=32) (X:Option Addr) (d:Nat) (Y:Option Addr) (f:Nat) (hX:Kd.C (Kd.int .u8) W X 32 a) (hd:32≤d) (hY:Kd.C (Kd.int .u8) W Y 32 bb) (hf:32≤f)=>show Calls Try.prog 20 #[.slice X 32 d,.slice Y 32 f] W _ from by
  have:=same_any a bb (by omega) W X d Y f (by rw[h32];exact hX) (by rw[h32];exact hd) (by rw[h33];exact hY) (by rw[h33];exact hf)
  rw[h32,h33] at this
  exact this)
 have hrf:=Lib.hid (fun (W:World) (hW:Below w.heap.size w W) (X:Option Addr) (d:Nat) (hX:Kd.C (Kd.int .u8) W X 32 (keyD pass R.salt r)) (hd:32≤d)=>show Calls Try.prog 34 #[.slice A 624 c,.slice X 32 d] W _ from by
  have:=refFits_any A c l X d (keyD pass R.salt r) W (Kd.C_below hC hW) hc (by rw[keyD_len];exact hX) (by rw[keyD_len];exact hd) hl (keyD_len _ _ _) hb (fun x hx=>by rw[← e32] at hx;exact hDb x (List.mem_of_mem_take (List.mem_of_mem_drop hx)))
  rw[hl,keyD_len] at this
  exact this)
 have lk:=Lib.hid (keyD_len pass R.salt r)
 have lc:=Lib.hid (checkD_len pass R.salt r)
 have l0:=Lib.hid (kekD_len pass R.salt r)
 have lr:=Lib.hid hk32
 obtain ⟨KD,hKD⟩:∃ K,K=keyD pass R.salt r:=⟨_,rfl⟩
 obtain ⟨CD,hCD⟩:∃ K,K=checkD pass R.salt r:=⟨_,rfl⟩
 obtain ⟨KK,hKK⟩:∃ K,K=kekD pass R.salt r:=⟨_,rfl⟩
 rw[← hKD] at hrf lk e32
 rw[← hCD] at hk lc e64
 rw[← hKK] at l0 e0
 have E64:=Lib.hid e64
 have E32:=Lib.hid e32
 have E0:=Lib.hid e0
 have HK:=Lib.hid hk
 have hnb:r≤4∨1000<r:=by omega
 rw[hl] at hopen ⊢
 obtain ⟨np,hnp⟩:∃ n,n=pass.length:=⟨_,rfl⟩
 rw[← hnp] at hopen hright hbyt ⊢
 clear hnp hZ hC hc hb hC1 hc1 hpb hr4 hl ho hr hs16 hk32 hk hrp hr1 hr2 hsb hkb hD hDl hDb e64 e32 e0 hKD hCD hKK
 go_enter Try.func7,Try.ntmps7
 go_upto_region 1 with fail
 go_cut [20] (fun v w'=>v=.bool false∧w=w')
 case first=>
  rcases hnb with hnb | hnb
  ·go_wp2_with fail
   go_meet
   exact ⟨rfl,rfl⟩
  have hq1:4<r:=by omega
  have hq2:(r≤1000)=False:=by simp;omega
  have hq3:decide (r≤1000)=false:=by simp;omega
  go_wp2_with fail
  go_meet
  exact ⟨rfl,rfl⟩
 case rest=>
  obtain ⟨rfl,rfl⟩:=hcut
  clear hnb
  go_wp2_with (first
   |((with_reducible go_at_call 36);refine hopen.out.mono ?_;rintro e w1 ⟨rfl,hb⟩;have b1:=Lib.hid hb;clear hb)
   |(with_reducible refine wpList_store_row rfl 28 _ _ rfl w1.heap.size Z rfl rfl 28 Z (heap_alloc_last _ _) hZs.out rfl hZo.out ?_;have bx2:=Lib.hid (below_setRow ((Below.refl w1.heap.size w1).alloc (Nat.le_refl _) (.cells Z 28 (0,0))) (Nat.le_refl _) Z);have g2:=Lib.hid (setRow_heap (w1.alloc (.cells Z 28 (0,0))) w1.heap.size Z Z 28 (0,0) (heap_alloc_last _ _));generalize (w1.alloc (.cells Z 28 (0,0))).setRow w1.heap.size Z=w2 at *;have b2:=Lib.hid (below_step b1.out bx2.out))
   |((with_reducible refine wpList_load_row_on ?_ 28 _ rfl w1.heap.size rfl 28 Z (0,0) _ g2.out Try.underlying28 rfl hZs.out ?_);exact rfl)
   |((with_reducible go_at_call 15);refine (hof.out _).mono ?_;rintro e w3 ⟨rfl,hb⟩;have b3:=Lib.hid (below_step b2.out hb);clear hb)
   |((with_reducible go_at_call 16);refine (hsm.out _).mono ?_;rintro e w4 ⟨rfl,hb⟩;have b4:=Lib.hid (below_step b3.out hb);clear hb)
   |((with_reducible go_at_call 35);refine (hrr.out _ b4.out).mono ?_;rintro e w5 ⟨AY,cY,rfl,hVY,hb⟩;have b5:=Lib.hid (below_step b4.out hb);obtain ⟨H,hH⟩:∃ H,H=(rcl R AY cY).toArray:=⟨_,rfl⟩;rw[← hH];have hHr:=Lib.hid (show (Try.prog.info? 39).map (·.size)=some H.size by rw[hH];exact szRr);have hHo:=Lib.hid (show H.all (·.oneCell')=true by rw[hH];exact rcl_one _ _ _);have hHZ:=Lib.hid (show Z.size=H.size by rw[hZ25.out,hH];rfl);have hH':=Lib.hid hH;have VY:=Lib.hid hVY;clear hb hVY hH)
   |(with_reducible refine wpList_store_row rfl 39 _ _ rfl w5.heap.size H rfl rfl 39 Z (heap_alloc_last _ _) hHr.out hHZ.out hHo.out ?_;have bx6:=Lib.hid (below_setRow ((Below.refl w5.heap.size w5).alloc (Nat.le_refl _) (.cells Z 39 (0,0))) (Nat.le_refl _) H);have q6:=Lib.hid (setRow_heap (w5.alloc (.cells Z 39 (0,0))) w5.heap.size Z H 39 (0,0) (heap_alloc_last _ _));generalize (w5.alloc (.cells Z 39 (0,0))).setRow w5.heap.size H=w6 at *;have b6:=Lib.hid (below_step b5.out bx6.out))
   |((with_reducible go_at_call 37);refine (hright.out _ b6.out).mono ?_;rintro e w7 ⟨rfl,hd⟩;have b7:=Lib.hid (below_step b6.out hd.below);have q7:=Lib.hid (heap_below q6.out hd.below);have q72:=(hcel.out _ AY cY H hH'.out _ q7.out).1;clear hd)
   |((with_reducible go_at_call 38);refine (hbyt.out _ b7.out AY cY (VY.out.below b7.out)).mono ?_;rintro e w8 ⟨X,d,rfl,hd,hX,hb⟩;have b8:=Lib.hid (below_step b7.out hb);have q8:=Lib.hid (heap_below q7.out hb);have C8:=Lib.hid hX;obtain ⟨XC,sC,cC⟩:=hcutc.out X d hd;obtain ⟨XK,sK,cK⟩:=hcutk.out X d hd;have sC':=Lib.hid sC;have cC':=Lib.hid cC;have sK':=Lib.hid sK;have cK':=Lib.hid cK;have d96:=Lib.hid hd;clear hb hX hd sC cC sK cK q72))
  refine start_ (n:=6) (S:=fun w'=>Below w.heap.size w w'∧w'.heap[w5.heap.size]?=some (.cells H 39 (0,0))∧Below w8.heap.size w8 w') (ds:=[]) #[false,false,false,false,false,false] (by kernel_rfl) rfl rfl (by exact ⟨below_drew b8.out,q8.out,below_drew (Below.refl _ _)⟩) (fun hHeld=>?_)
  refine pure_ (i:=0) (N:=some 86) (v:=?_) (a':=?_) #[true,false,false,false,false,false] rfl rfl (by kernel_rfl) (fun _ _ _ h=>h) (Or.inl ⟨by rfl,?_⟩) ?_ ?_
  rotate_left
  ·intro w';go_simp;with_reducible rfl
  rotate_left
  ·simp only[Act.put,sZ0,sZ1,sZ2,i64_w,i32_w];rfl
  refine pure_ (i:=1) (N:=some 87) (v:=?_) (a':=?_) #[true,true,false,false,false,false] rfl rfl (by kernel_rfl) (fun _ _ _ h=>h) (Or.inl ⟨by rfl,?_⟩) ?_ ?_
  rotate_left
  ·intro w'
   refine (exec_slice_l w' 23 _ Try.underlying23 _ _ (by rfl) (.slice X 96 d) (.int .i64 64) _ (by rfl) (by rfl) (sC'.out w')).trans ?_;with_reducible rfl
  rotate_left
  ·simp only[Act.put,sZ0,sZ1,sZ2,i64_w,i32_w];rfl
  refine pure_ (i:=2) (N:=some 88) (v:=?_) (a':=?_) #[true,true,true,false,false,false] rfl rfl (by kernel_rfl) (fun _ _ _ h=>h) (Or.inl ⟨by rfl,?_⟩) ?_ ?_
  rotate_left
  ·intro w';go_simp;with_reducible rfl
  rotate_left
  ·simp only[Act.put,sZ0,sZ1,sZ2,i64_w,i32_w];rfl
  refine take_ (i:=3) (N:=some 89) (v:=?_) (a':=?_) #[true,true,true,true,false,false] rfl rfl (by kernel_rfl) (fun _ _ _ h=>h) (Or.inl ⟨by rfl,?_⟩) hHeld ?_ ?_
  rotate_left
  ·intro w' hS
   have hq:=(hcel.out w' AY cY H hH'.out _ hS.2.1).2
   go_simp;with_reducible rfl
  rotate_left
  ·simp only[Act.put,sZ0,sZ1,sZ2,i64_w,i32_w];rfl
  refine one_ (i:=4) (N:=some 90) #[true,true,true,true,true,false] rfl rfl (by kernel_rfl) (by decide) (fun K hK=>?_)
  refine goes_ Try.func20 (by kernel_rfl) rfl #[.slice XC 32 (d - 64),.slice (AY 1) 32 (cY 1)] (by rfl) rfl rfl (by (try simp only[List.map_toArray,List.map_cons,List.map_nil]);first | done | rfl) ?_
  have hy1:=(VY.out.below hHeld.1) 1 (by omega)
  refine (hsbt.out _ CD R.check lc.out lr.out XC (d - 64) (AY 1) (cY 1) (by rw[← E64.out];exact cC'.out _ (Kd.C_below C8.out hHeld.2.2)) (by have:=d96.out;omega) (by have:=hy1.1;rw[show (rlist R 1).length=32 from lr.out] at this;exact this) (by have:=hy1.2;rw[show (rlist R 1).length=32 from lr.out] at this;exact this)).mono ?_
  rintro e w9 ⟨rfl,hd⟩
  refine ⟨_,rfl,?_⟩
  refine hK.out _ _ ⟨below_step hHeld.1 hd.below,heap_below hHeld.2.1 hd.below,below_step hHeld.2.2 hd.below⟩ (fun hHeld=>?_)
  have b9:=Lib.hid hHeld.1
  have q9:=Lib.hid hHeld.2.1
  have bw9:=Lib.hid hHeld.2.2
  rw[decide_eq_false HK.out]
  clear hd hy1
  clear hK K;refine norm_ (a':=?_) ?_ ?_
  rotate_left
  ·show Act.put _ (some 90) _=_
   simp only[Act.put,sZ0,sZ1,sZ2,i64_w,i32_w];rfl
  refine pure_ (i:=5) (N:=some 91) (v:=?_) (a':=?_) #[true,true,true,true,true,true] rfl rfl (by kernel_rfl) (fun _ _ _ h=>h) (Or.inl ⟨by rfl,?_⟩) ?_ ?_
  rotate_left
  ·intro w';go_simp;with_reducible rfl
  rotate_left
  ·simp only[Act.put,sZ0,sZ1,sZ2,i64_w,i32_w];rfl
  refine done_ (by kernel_rfl) ?_
  go_wp2_with (first
   |((with_reducible go_at_call 10);refine (hawk.out _).mono ?_;rintro e w10 ⟨rfl,hb⟩;have b10:=Lib.hid (below_step b9.out hb);clear hb))
  go_ret
  exact ⟨rfl,b10.out⟩
set_option maxHeartbeats 8000000 in
set_option maxRecDepth 100000 in
theorem opens_sixteen (A:Option Addr) (c:Nat) (l:List Int) (A1:Option Addr) (c1:Nat) (pass:List Int) (r:Int) (w:World) (hC:Kd.C (Kd.int .u8) w A l.length l) (hc:l.length≤c) (hb:∀ x ∈ l,byt x) (hC1:Kd.C (Kd.int .u8) w A1 pass.length pass) (hc1:pass.length≤c1) (hpb:∀ x ∈ pass,byt x) (hr4 : ¬ (4<r∧r≤1000)) (hl:l.length=624) (R:RcT) (ho:rcRead l=some R) (hr:rightB pass.length r=true) (hk:checkD pass R.salt r=R.check) (hf:fitsB l (keyD pass R.salt r)=false) :
  Calls Try.prog 7 #[.slice A l.length c,.slice A1 pass.length c1,.int .i64 r] w fun e w'=>e=.returned (.bool true)∧Below w.heap.size w w':=by
 obtain ⟨hz,-⟩:=zero_of_info (P:=Try.prog) infoRc
 obtain ⟨hzr,-⟩:=zero_of_info (P:=Try.prog) infoRr
 obtain ⟨Z,hZ⟩:∃ Z:Array Value,Z=zRc:=⟨_,rfl⟩
 have hW0:∀ (W:World),(Instr.build 39 #[]).run Try.prog W=.ok (.agg Z) W:=fun W=>by rw[hZ];exact run_build W _ _ _ builtRr0
 have hZs:=Lib.hid (show (Try.prog.info? 28).map (·.size)=some Z.size by rw[hZ];exact szRc)
 have hZr:=Lib.hid (show (Try.prog.info? 39).map (·.size)=some Z.size by rw[hZ];exact szRr)
 have hZo:=Lib.hid (show Z.all (·.oneCell')=true by rw[hZ];exact rcl_one _ _ _)
 have hZ25:=Lib.hid (show Z.size=25 by rw[hZ];rfl)
 rw[← hZ] at hz hzr
 have hawk:=Lib.hid awake18_any
 have hof:=Lib.hid (fun (W:World)=>show Calls Try.prog 15 #[.agg Z] W (fun e w'=>e=.returned (.agg Z)∧Below W.heap.size W w') from by rw[hZ];exact of18_any rcZero (fun _=>none) (fun _=>0) W)
 have hsm:=Lib.hid (fun (W:World)=>show Calls Try.prog 16 #[.agg Z,.agg Z] W _ from by rw[hZ];exact recSame_eq rcZero (fun _=>none) (fun _=>0) (fun _=>none) (fun _=>0) W (RcV.zero W) (RcV.zero W) (fun j _=>rlist_zero j))
 have hs16:=rcRead_salt ho hl
 have hk32:=rcRead_check ho hl
 have hopen:=Lib.hid (recOpen_sixteen A c l A1 c1 pass r w hC hc hl hb R ho hC1 hc1 hr hk hf)
 rw[← hZ] at hopen
 have hrr:=Lib.hid (fun (W:World) (hW:Below w.heap.size w W)=>show Calls Try.prog 35 #[.slice A 624 c] W (fun e w'=>∃ AX cX,e=.returned (.tuple #[.agg (rcl R AX cX).toArray,.bool true])∧RcV w R AX cX∧Below W.heap.size W w') from by
  have:=ref18Read_any w A c l hl (by omega) hb W hC hW
  rw[ho] at this
  exact this)
 have hright:=Lib.hid (fun (W:World) (hW:Below w.heap.size w W)=>rRight_any pass r true hr A1 c1 W (Kd.C_below hC1 hW) hc1)
 obtain ⟨hrp,hr1,hr2⟩:=right_of hr
 obtain ⟨hsb,hkb⟩:=rcRead_byt ho hb
 obtain ⟨D,hD⟩:∃ D,D=bytesD (blockL pass) R.salt r.toNat 96:=⟨_,rfl⟩
 have hDl:D.length=96:=by rw[hD];exact bytesD_length _ _ _ _ (by decide)
 have hDb:∀ x ∈ D,byt x:=by rw[hD];exact byt_bytesD _ _ _ _
 have e64:D.drop 64=checkD pass R.salt r:=by unfold checkD;rw[← hD,List.take_of_length_le (by rw[List.length_drop];omega)]
 have e32:(D.take 64).drop 32=keyD pass R.salt r:=by unfold keyD;rw[← hD,List.drop_take]
 have e0:D.take 32=kekD pass R.salt r:=by unfold kekD;rw[← hD,List.drop_zero]
 have hcel:=Lib.hid (fun (W:World) (AY:Nat→Option Addr) (cY:Nat→Nat) (H:Array Value) (hH:H=(rcl R AY cY).toArray) (g:Nat) (h:W.heap[g]?=some (.cells H 39 (0,0)))=>show W.cell? ⟨g,2,none⟩=some (.slice (AY 0) 16 (cY 0))∧W.cell? ⟨g,4,none⟩=some (.slice (AY 1) 32 (cY 1)) from by
  obtain ⟨-,-,q2,-,q4⟩:=rc_head (r:=R) (A:=AY) (c:=cY) (by rw[hH] at h;exact h)
  rw[hs16] at q2
  rw[hk32] at q4
  exact ⟨q2,q4⟩)
 have hbyt:=Lib.hid (fun (W:World) (hW:Below w.heap.size w W) (AY:Nat→Option Addr) (cY:Nat→Nat) (hV:RcV W R AY cY)=>show Calls Try.prog 38 #[.slice A1 pass.length c1,.slice (AY 0) 16 (cY 0),.int .i64 r,.int .i64 96] W (fun e w'=>∃ X d,e=.returned (.slice X 96 d)∧96≤d∧Kd.C (Kd.int .u8) w' X 96 D∧Below W.heap.size W w') from by
  have:=rBytes_any pass R.salt hpb hsb (by omega) (by omega) r hr1 hr2 96 (by decide) A1 c1 (AY 0) (cY 0) W (Kd.C_below hC1 hW) hc1 (hV 0 (by omega)).1 (hV 0 (by omega)).2
  rw[hs16] at this
  refine this.mono ?_
  rintro e w' ⟨v,rfl,⟨X,d,rfl,hd,hX,-⟩,hbl⟩
  rw[← hD] at hd hX ⊢
  rw[hDl] at hd hX ⊢
  exact ⟨X,d,rfl,hd,hX,hbl⟩)
 have hcutc:=Lib.hid (fun (X:Option Addr) (d:Nat) (hd:96≤d)=>by have:=cutF X 96 d 64 D (by omega) hd;exact this)
 have hcutk:=Lib.hid (fun (X:Option Addr) (d:Nat) (hd:96≤d)=>by have:=cutB X 96 d 32 64 D (by omega) (by omega) hd;exact this)
 have hsbt:=Lib.hid (fun (W:World) (a bb:List Int) (h32:a.length=32) (h33:bb.length=32) (X:Option Addr) (d:Nat) (Y:Option Addr) (f:Nat) (hX:Kd.C (Kd.int .u8) W X 32 a) (hd:32≤d) (hY:Kd.C (Kd.int .u8) W Y 32 bb) (hf:32≤f)=>show Calls Try.prog 20 #[.slice X 32 d,.slice Y 32 f] W _ from by
  have:=same_any a bb (by omega) W X d Y f (by rw[h32];exact hX) (by rw[h32];exact hd) (by rw[h33];exact hY) (by rw[h33];exact hf)
  rw[h32,h33] at this
  exact this)
 have hrf:=Lib.hid (fun (W:World) (hW:Below w.heap.size w W) (X:Option Addr) (d:Nat) (hX:Kd.C (Kd.int .u8) W X 32 (keyD pass R.salt r)) (hd:32≤d)=>show Calls Try.prog 34 #[.slice A 624 c,.slice X 32 d] W _ from by
  have:=refFits_any A c l X d (keyD pass R.salt r) W (Kd.C_below hC hW) hc (by rw[keyD_len];exact hX) (by rw[keyD_len];exact hd) hl (keyD_len _ _ _) hb (fun x hx=>by rw[← e32] at hx;exact hDb x (List.mem_of_mem_take (List.mem_of_mem_drop hx)))
  rw[hl,keyD_len] at this
  exact this)
 have lk:=Lib.hid (keyD_len pass R.salt r)
 have lc:=Lib.hid (checkD_len pass R.salt r)
 have l0:=Lib.hid (kekD_len pass R.salt r)
 have lr:=Lib.hid hk32
 obtain ⟨KD,hKD⟩:∃ K,K=keyD pass R.salt r:=⟨_,rfl⟩
 obtain ⟨CD,hCD⟩:∃ K,K=checkD pass R.salt r:=⟨_,rfl⟩
 obtain ⟨KK,hKK⟩:∃ K,K=kekD pass R.salt r:=⟨_,rfl⟩
 rw[hf] at hrf
 rw[← hKD] at hrf lk e32
 rw[← hCD] at hk lc e64
 rw[← hKK] at l0 e0
 have E64:=Lib.hid e64
 have E32:=Lib.hid e32
 have E0:=Lib.hid e0
 have HK:=Lib.hid hk
 have hnb:r≤4∨1000<r:=by omega
 rw[hl] at hopen ⊢
 obtain ⟨np,hnp⟩:∃ n,n=pass.length:=⟨_,rfl⟩
 rw[← hnp] at hopen hright hbyt ⊢
 clear hnp hZ hC hc hb hC1 hc1 hpb hr4 hl ho hr hs16 hk32 hk hrp hr1 hr2 hsb hkb hD hDl hDb e64 e32 e0 hKD hCD hKK hf
 go_enter Try.func7,Try.ntmps7
 go_upto_region 1 with fail
 go_cut [20] (fun v w'=>v=.bool false∧w=w')
 case first=>
  rcases hnb with hnb | hnb
  ·go_wp2_with fail
   go_meet
   exact ⟨rfl,rfl⟩
  have hq1:4<r:=by omega
  have hq2:(r≤1000)=False:=by simp;omega
  have hq3:decide (r≤1000)=false:=by simp;omega
  go_wp2_with fail
  go_meet
  exact ⟨rfl,rfl⟩
 case rest=>
  obtain ⟨rfl,rfl⟩:=hcut
  clear hnb
  go_wp2_with (first
   |((with_reducible go_at_call 36);refine hopen.out.mono ?_;rintro e w1 ⟨rfl,hb⟩;have b1:=Lib.hid hb;clear hb)
   |(with_reducible refine wpList_store_row rfl 28 _ _ rfl w1.heap.size Z rfl rfl 28 Z (heap_alloc_last _ _) hZs.out rfl hZo.out ?_;have bx2:=Lib.hid (below_setRow ((Below.refl w1.heap.size w1).alloc (Nat.le_refl _) (.cells Z 28 (0,0))) (Nat.le_refl _) Z);have g2:=Lib.hid (setRow_heap (w1.alloc (.cells Z 28 (0,0))) w1.heap.size Z Z 28 (0,0) (heap_alloc_last _ _));generalize (w1.alloc (.cells Z 28 (0,0))).setRow w1.heap.size Z=w2 at *;have b2:=Lib.hid (below_step b1.out bx2.out))
   |((with_reducible refine wpList_load_row_on ?_ 28 _ rfl w1.heap.size rfl 28 Z (0,0) _ g2.out Try.underlying28 rfl hZs.out ?_);exact rfl)
   |((with_reducible go_at_call 15);refine (hof.out _).mono ?_;rintro e w3 ⟨rfl,hb⟩;have b3:=Lib.hid (below_step b2.out hb);clear hb)
   |((with_reducible go_at_call 16);refine (hsm.out _).mono ?_;rintro e w4 ⟨rfl,hb⟩;have b4:=Lib.hid (below_step b3.out hb);clear hb)
   |((with_reducible go_at_call 35);refine (hrr.out _ b4.out).mono ?_;rintro e w5 ⟨AY,cY,rfl,hVY,hb⟩;have b5:=Lib.hid (below_step b4.out hb);obtain ⟨H,hH⟩:∃ H,H=(rcl R AY cY).toArray:=⟨_,rfl⟩;rw[← hH];have hHr:=Lib.hid (show (Try.prog.info? 39).map (·.size)=some H.size by rw[hH];exact szRr);have hHo:=Lib.hid (show H.all (·.oneCell')=true by rw[hH];exact rcl_one _ _ _);have hHZ:=Lib.hid (show Z.size=H.size by rw[hZ25.out,hH];rfl);have hH':=Lib.hid hH;have VY:=Lib.hid hVY;clear hb hVY hH)
   |(with_reducible refine wpList_store_row rfl 39 _ _ rfl w5.heap.size H rfl rfl 39 Z (heap_alloc_last _ _) hHr.out hHZ.out hHo.out ?_;have bx6:=Lib.hid (below_setRow ((Below.refl w5.heap.size w5).alloc (Nat.le_refl _) (.cells Z 39 (0,0))) (Nat.le_refl _) H);have q6:=Lib.hid (setRow_heap (w5.alloc (.cells Z 39 (0,0))) w5.heap.size Z H 39 (0,0) (heap_alloc_last _ _));generalize (w5.alloc (.cells Z 39 (0,0))).setRow w5.heap.size H=w6 at *;have b6:=Lib.hid (below_step b5.out bx6.out))
   |((with_reducible go_at_call 37);refine (hright.out _ b6.out).mono ?_;rintro e w7 ⟨rfl,hd⟩;have b7:=Lib.hid (below_step b6.out hd.below);have q7:=Lib.hid (heap_below q6.out hd.below);have q72:=(hcel.out _ AY cY H hH'.out _ q7.out).1;clear hd)
   |((with_reducible go_at_call 38);refine (hbyt.out _ b7.out AY cY (VY.out.below b7.out)).mono ?_;rintro e w8 ⟨X,d,rfl,hd,hX,hb⟩;have b8:=Lib.hid (below_step b7.out hb);have q8:=Lib.hid (heap_below q7.out hb);have C8:=Lib.hid hX;obtain ⟨XC,sC,cC⟩:=hcutc.out X d hd;obtain ⟨XK,sK,cK⟩:=hcutk.out X d hd;have sC':=Lib.hid sC;have cC':=Lib.hid cC;have sK':=Lib.hid sK;have cK':=Lib.hid cK;have d96:=Lib.hid hd;clear hb hX hd sC cC sK cK q72))
  refine start_ (n:=6) (S:=fun w'=>Below w.heap.size w w'∧w'.heap[w5.heap.size]?=some (.cells H 39 (0,0))∧Below w8.heap.size w8 w') (ds:=[]) #[false,false,false,false,false,false] (by kernel_rfl) rfl rfl (by exact ⟨below_drew b8.out,q8.out,below_drew (Below.refl _ _)⟩) (fun hHeld=>?_)
  refine pure_ (i:=0) (N:=some 86) (v:=?_) (a':=?_) #[true,false,false,false,false,false] rfl rfl (by kernel_rfl) (fun _ _ _ h=>h) (Or.inl ⟨by rfl,?_⟩) ?_ ?_
  rotate_left
  ·intro w';go_simp;with_reducible rfl
  rotate_left
  ·simp only[Act.put,sZ0,sZ1,sZ2,i64_w,i32_w];rfl
  refine pure_ (i:=1) (N:=some 87) (v:=?_) (a':=?_) #[true,true,false,false,false,false] rfl rfl (by kernel_rfl) (fun _ _ _ h=>h) (Or.inl ⟨by rfl,?_⟩) ?_ ?_
  rotate_left
  ·intro w'
   refine (exec_slice_l w' 23 _ Try.underlying23 _ _ (by rfl) (.slice X 96 d) (.int .i64 64) _ (by rfl) (by rfl) (sC'.out w')).trans ?_;with_reducible rfl
  rotate_left
  ·simp only[Act.put,sZ0,sZ1,sZ2,i64_w,i32_w];rfl
  refine pure_ (i:=2) (N:=some 88) (v:=?_) (a':=?_) #[true,true,true,false,false,false] rfl rfl (by kernel_rfl) (fun _ _ _ h=>h) (Or.inl ⟨by rfl,?_⟩) ?_ ?_
  rotate_left
  ·intro w';go_simp;with_reducible rfl
  rotate_left
  ·simp only[Act.put,sZ0,sZ1,sZ2,i64_w,i32_w];rfl
  refine take_ (i:=3) (N:=some 89) (v:=?_) (a':=?_) #[true,true,true,true,false,false] rfl rfl (by kernel_rfl) (fun _ _ _ h=>h) (Or.inl ⟨by rfl,?_⟩) hHeld ?_ ?_
  rotate_left
  ·intro w' hS
   have hq:=(hcel.out w' AY cY H hH'.out _ hS.2.1).2
   go_simp;with_reducible rfl
  rotate_left
  ·simp only[Act.put,sZ0,sZ1,sZ2,i64_w,i32_w];rfl
  refine one_ (i:=4) (N:=some 90) #[true,true,true,true,true,false] rfl rfl (by kernel_rfl) (by decide) (fun K hK=>?_)
  refine goes_ Try.func20 (by kernel_rfl) rfl #[.slice XC 32 (d - 64),.slice (AY 1) 32 (cY 1)] (by rfl) rfl rfl (by (try simp only[List.map_toArray,List.map_cons,List.map_nil]);first | done | rfl) ?_
  have hy1:=(VY.out.below hHeld.1) 1 (by omega)
  refine (hsbt.out _ CD R.check lc.out lr.out XC (d - 64) (AY 1) (cY 1) (by rw[← E64.out];exact cC'.out _ (Kd.C_below C8.out hHeld.2.2)) (by have:=d96.out;omega) (by have:=hy1.1;rw[show (rlist R 1).length=32 from lr.out] at this;exact this) (by have:=hy1.2;rw[show (rlist R 1).length=32 from lr.out] at this;exact this)).mono ?_
  rintro e w9 ⟨rfl,hd⟩
  refine ⟨_,rfl,?_⟩
  refine hK.out _ _ ⟨below_step hHeld.1 hd.below,heap_below hHeld.2.1 hd.below,below_step hHeld.2.2 hd.below⟩ (fun hHeld=>?_)
  have b9:=Lib.hid hHeld.1
  have q9:=Lib.hid hHeld.2.1
  have bw9:=Lib.hid hHeld.2.2
  rw[decide_eq_true HK.out]
  clear hd hy1
  clear hK K;refine norm_ (a':=?_) ?_ ?_
  rotate_left
  ·show Act.put _ (some 90) _=_
   simp only[Act.put,sZ0,sZ1,sZ2,i64_w,i32_w];rfl
  refine pure_ (i:=5) (N:=some 91) (v:=?_) (a':=?_) #[true,true,true,true,true,true] rfl rfl (by kernel_rfl) (fun _ _ _ h=>h) (Or.inl ⟨by rfl,?_⟩) ?_ ?_
  rotate_left
  ·intro w';go_simp;with_reducible rfl
  rotate_left
  ·simp only[Act.put,sZ0,sZ1,sZ2,i64_w,i32_w];rfl
  refine done_ (by kernel_rfl) ?_
  have C9:=Lib.hid (Kd.C_below C8.out bw9.out)
  go_wp2_with (first
   |(refine wpList_slice_lh rfl 23 _ Try.underlying23 _ _ _ rfl (.slice X 96 d) (.int .i64 32) (.int .i64 64) _ rfl rfl rfl (sK'.out _) ?_)
   |((with_reducible go_at_call 34);refine (hrf.out _ b9.out XK (d - 32) (by rw[← E32.out];exact cK'.out _ C9.out) (by have:=d96.out;omega)).mono ?_;rintro e w10 ⟨rfl,hb⟩;have b10:=Lib.hid (below_step b9.out hb);clear hb)
   |((with_reducible go_at_call 10);refine (hawk.out _).mono ?_;rintro e w11 ⟨rfl,hb⟩;have b11:=Lib.hid (below_step b10.out hb);clear hb))
  go_ret
  exact ⟨rfl,b11.out⟩
set_option maxHeartbeats 8000000 in
set_option maxRecDepth 100000 in
theorem opens_ok (A:Option Addr) (c:Nat) (l:List Int) (A1:Option Addr) (c1:Nat) (pass:List Int) (r:Int) (w:World) (hC:Kd.C (Kd.int .u8) w A l.length l) (hc:l.length≤c) (hb:∀ x ∈ l,byt x) (hC1:Kd.C (Kd.int .u8) w A1 pass.length pass) (hc1:pass.length≤c1) (hpb:∀ x ∈ pass,byt x) (hr4 : ¬ (4<r∧r≤1000)) (hl:l.length=624) (R:RcT) (ho:rcRead l=some R) (hr:rightB pass.length r=true) (hk:checkD pass R.salt r=R.check) (hf:fitsB l (keyD pass R.salt r)=true) :
  Calls Try.prog 7 #[.slice A l.length c,.slice A1 pass.length c1,.int .i64 r] w fun e w'=>e=.returned (.bool true)∧Below w.heap.size w w':=by
 obtain ⟨hz,-⟩:=zero_of_info (P:=Try.prog) infoRc
 obtain ⟨hzr,-⟩:=zero_of_info (P:=Try.prog) infoRr
 obtain ⟨Z,hZ⟩:∃ Z:Array Value,Z=zRc:=⟨_,rfl⟩
 have hW0:∀ (W:World),(Instr.build 39 #[]).run Try.prog W=.ok (.agg Z) W:=fun W=>by rw[hZ];exact run_build W _ _ _ builtRr0
 have hZs:=Lib.hid (show (Try.prog.info? 28).map (·.size)=some Z.size by rw[hZ];exact szRc)
 have hZr:=Lib.hid (show (Try.prog.info? 39).map (·.size)=some Z.size by rw[hZ];exact szRr)
 have hZo:=Lib.hid (show Z.all (·.oneCell')=true by rw[hZ];exact rcl_one _ _ _)
 have hZ25:=Lib.hid (show Z.size=25 by rw[hZ];rfl)
 rw[← hZ] at hz hzr
 have hawk:=Lib.hid awake18_any
 have hs16:=rcRead_salt ho hl
 have hk32:=rcRead_check ho hl
 have hopen:=Lib.hid (recOpen_ok A c l A1 c1 pass r w hC hc hl hb R ho hC1 hc1 hr hk hf)
 have hof:=Lib.hid (fun (AX:Nat→Option Addr) (cX:Nat→Nat) (W:World)=>of18_any R AX cX W)
 have hsz:=Lib.hid (fun (AX:Nat→Option Addr) (cX:Nat→Nat) (W:World) (hV:RcV W R AX cX)=>show Calls Try.prog 16 #[.agg (rcl R AX cX).toArray,.agg Z] W _ from by rw[hZ];exact recSame_zero R AX cX W hV hs16)
 have hsame:=Lib.hid (fun (AX AY:Nat→Option Addr) (cX cY:Nat→Nat) (W:World) (hV:RcV W R AX cX) (hV':RcV W R AY cY)=>recSame_eq R AX cX AY cY W hV hV' (fun j hj=>Nat.le_trans (rcRead_len l 624 (by omega) R ho j hj) (by omega)))
 have hrr:=Lib.hid (fun (W:World) (hW:Below w.heap.size w W)=>show Calls Try.prog 35 #[.slice A 624 c] W (fun e w'=>∃ AX cX,e=.returned (.tuple #[.agg (rcl R AX cX).toArray,.bool true])∧RcV w R AX cX∧Below W.heap.size W w') from by
  have:=ref18Read_any w A c l hl (by omega) hb W hC hW
  rw[ho] at this
  exact this)
 have hright:=Lib.hid (fun (W:World) (hW:Below w.heap.size w W)=>rRight_any pass r true hr A1 c1 W (Kd.C_below hC1 hW) hc1)
 obtain ⟨hrp,hr1,hr2⟩:=right_of hr
 obtain ⟨hsb,hkb⟩:=rcRead_byt ho hb
 obtain ⟨D,hD⟩:∃ D,D=bytesD (blockL pass) R.salt r.toNat 96:=⟨_,rfl⟩
 have hDl:D.length=96:=by rw[hD];exact bytesD_length _ _ _ _ (by decide)
 have hDb:∀ x ∈ D,byt x:=by rw[hD];exact byt_bytesD _ _ _ _
 have e64:D.drop 64=checkD pass R.salt r:=by unfold checkD;rw[← hD,List.take_of_length_le (by rw[List.length_drop];omega)]
 have e32:(D.take 64).drop 32=keyD pass R.salt r:=by unfold keyD;rw[← hD,List.drop_take]
 have e0:D.take 32=kekD pass R.salt r:=by unfold kekD;rw[← hD,List.drop_zero]
 have hcel:=Lib.hid (fun (W:World) (AY:Nat→Option Addr) (cY:Nat→Nat) (H:Array Value) (hH:H=(rcl R AY cY).toArray) (g:Nat) (h:W.heap[g]?=some (.cells H 39 (0,0)))=>show W.cell? ⟨g,2,none⟩=some (.slice (AY 0) 16 (cY 0))∧W.cell? ⟨g,4,none⟩=some (.slice (AY 1) 32 (cY 1)) from by
  obtain ⟨-,-,q2,-,q4⟩:=rc_head (r:=R) (A:=AY) (c:=cY) (by rw[hH] at h;exact h)
  rw[hs16] at q2
  rw[hk32] at q4
  exact ⟨q2,q4⟩)
 have hbyt:=Lib.hid (fun (W:World) (hW:Below w.heap.size w W) (AY:Nat→Option Addr) (cY:Nat→Nat) (hV:RcV W R AY cY)=>show Calls Try.prog 38 #[.slice A1 pass.length c1,.slice (AY 0) 16 (cY 0),.int .i64 r,.int .i64 96] W (fun e w'=>∃ X d,e=.returned (.slice X 96 d)∧96≤d∧Kd.C (Kd.int .u8) w' X 96 D∧Below W.heap.size W w') from by
  have:=rBytes_any pass R.salt hpb hsb (by omega) (by omega) r hr1 hr2 96 (by decide) A1 c1 (AY 0) (cY 0) W (Kd.C_below hC1 hW) hc1 (hV 0 (by omega)).1 (hV 0 (by omega)).2
  rw[hs16] at this
  refine this.mono ?_
  rintro e w' ⟨v,rfl,⟨X,d,rfl,hd,hX,-⟩,hbl⟩
  rw[← hD] at hd hX ⊢
  rw[hDl] at hd hX ⊢
  exact ⟨X,d,rfl,hd,hX,hbl⟩)
 have hcutc:=Lib.hid (fun (X:Option Addr) (d:Nat) (hd:96≤d)=>by have:=cutF X 96 d 64 D (by omega) hd;exact this)
 have hcutk:=Lib.hid (fun (X:Option Addr) (d:Nat) (hd:96≤d)=>by have:=cutB X 96 d 32 64 D (by omega) (by omega) hd;exact this)
 have hsbt:=Lib.hid (fun (W:World) (a bb:List Int) (h32:a.length=32) (h33:bb.length=32) (X:Option Addr) (d:Nat) (Y:Option Addr) (f:Nat) (hX:Kd.C (Kd.int .u8) W X 32 a) (hd:32≤d) (hY:Kd.C (Kd.int .u8) W Y 32 bb) (hf:32≤f)=>show Calls Try.prog 20 #[.slice X 32 d,.slice Y 32 f] W _ from by
  have:=same_any a bb (by omega) W X d Y f (by rw[h32];exact hX) (by rw[h32];exact hd) (by rw[h33];exact hY) (by rw[h33];exact hf)
  rw[h32,h33] at this
  exact this)
 have hrf:=Lib.hid (fun (W:World) (hW:Below w.heap.size w W) (X:Option Addr) (d:Nat) (hX:Kd.C (Kd.int .u8) W X 32 (keyD pass R.salt r)) (hd:32≤d)=>show Calls Try.prog 34 #[.slice A 624 c,.slice X 32 d] W _ from by
  have:=refFits_any A c l X d (keyD pass R.salt r) W (Kd.C_below hC hW) hc (by rw[keyD_len];exact hX) (by rw[keyD_len];exact hd) hl (keyD_len _ _ _) hb (fun x hx=>by rw[← e32] at hx;exact hDb x (List.mem_of_mem_take (List.mem_of_mem_drop hx)))
  rw[hl,keyD_len] at this
  exact this)
 have lk:=Lib.hid (keyD_len pass R.salt r)
 have lc:=Lib.hid (checkD_len pass R.salt r)
 have l0:=Lib.hid (kekD_len pass R.salt r)
 have lr:=Lib.hid hk32
 obtain ⟨KD,hKD⟩:∃ K,K=keyD pass R.salt r:=⟨_,rfl⟩
 obtain ⟨CD,hCD⟩:∃ K,K=checkD pass R.salt r:=⟨_,rfl⟩
 obtain ⟨KK,hKK⟩:∃ K,K=kekD pass R.salt r:=⟨_,rfl⟩
 rw[hf] at hrf
 rw[← hKK,← hKD] at hopen
 rw[← hKD] at hrf lk e32
 rw[← hCD] at hk lc e64
 rw[← hKK] at l0 e0
 have E64:=Lib.hid e64
 have E32:=Lib.hid e32
 have E0:=Lib.hid e0
 have HK:=Lib.hid hk
 have hnb:r≤4∨1000<r:=by omega
 rw[hl] at hopen ⊢
 obtain ⟨np,hnp⟩:∃ n,n=pass.length:=⟨_,rfl⟩
 rw[← hnp] at hopen hright hbyt ⊢
 clear hnp hZ hC hc hb hC1 hc1 hpb hr4 hl ho hr hs16 hk32 hk hrp hr1 hr2 hsb hkb hD hDl hDb e64 e32 e0 hKD hCD hKK hf
 go_enter Try.func7,Try.ntmps7
 go_upto_region 1 with fail
 go_cut [20] (fun v w'=>v=.bool false∧w=w')
 case first=>
  rcases hnb with hnb | hnb
  ·go_wp2_with fail
   go_meet
   exact ⟨rfl,rfl⟩
  have hq1:4<r:=by omega
  have hq2:(r≤1000)=False:=by simp;omega
  have hq3:decide (r≤1000)=false:=by simp;omega
  go_wp2_with fail
  go_meet
  exact ⟨rfl,rfl⟩
 case rest=>
  obtain ⟨rfl,rfl⟩:=hcut
  clear hnb
  go_wp2_with (first
   |((with_reducible go_at_call 36);refine hopen.out.mono ?_;rintro e w1 ⟨AX,cX,X1,d1,X2,d2,rfl,hV,k1,k2,C1,C2,hb⟩;have b1:=Lib.hid hb;have V1:=Lib.hid hV;have K1:=Lib.hid C1;have K2:=Lib.hid C2;have d1':=Lib.hid k1;have d2':=Lib.hid k2;obtain ⟨G,hG⟩:∃ G,G=(rcl R AX cX).toArray:=⟨_,rfl⟩;rw[← hG];have hGs:=Lib.hid (show (Try.prog.info? 28).map (·.size)=some G.size by rw[hG];exact szRc);have hGo:=Lib.hid (show G.all (·.oneCell')=true by rw[hG];exact rcl_one _ _ _);have hGZ:=Lib.hid (show Z.size=G.size by rw[hZ25.out,hG];rfl);have hof1:=Lib.hid (fun W=>hof.out AX cX W);have hsz1:=Lib.hid (fun (W:World) (hW:Below w1.heap.size w1 W)=>hsz.out AX cX W (V1.out.below hW));rw[← hG] at hof1 hsz1;have hG':=Lib.hid hG;clear hb hV C1 C2 k1 k2 hG)
   |(with_reducible refine wpList_store_row rfl 28 _ _ rfl w1.heap.size G rfl rfl 28 Z (heap_alloc_last _ _) hGs.out hGZ.out hGo.out ?_;have bx2:=Lib.hid (below_setRow ((Below.refl w1.heap.size w1).alloc (Nat.le_refl _) (.cells Z 28 (0,0))) (Nat.le_refl _) G);have g2:=Lib.hid (setRow_heap (w1.alloc (.cells Z 28 (0,0))) w1.heap.size Z G 28 (0,0) (heap_alloc_last _ _));generalize (w1.alloc (.cells Z 28 (0,0))).setRow w1.heap.size G=w2 at *;have b2:=Lib.hid (below_step b1.out bx2.out);have bz2:=Lib.hid bx2.out)
   |((with_reducible refine wpList_load_row_on ?_ 28 _ rfl w1.heap.size rfl 28 G (0,0) _ g2.out Try.underlying28 rfl hGs.out ?_);exact rfl)
   |((with_reducible go_at_call 15);refine (hof1.out _).mono ?_;rintro e w3 ⟨rfl,hb⟩;have b3:=Lib.hid (below_step b2.out hb);have g3:=Lib.hid (heap_below g2.out hb);have bz3:=Lib.hid (below_step bz2.out hb);clear hb)
   |((with_reducible go_at_call 16);refine (hsz1.out _ bz3.out).mono ?_;rintro e w4 ⟨rfl,hb⟩;have b4:=Lib.hid (below_step b3.out hb);have g4:=Lib.hid (heap_below g3.out hb);have bz4:=Lib.hid (below_step bz3.out hb);clear hb)
   |((with_reducible go_at_call 35);refine (hrr.out _ b4.out).mono ?_;rintro e w5 ⟨AY,cY,rfl,hVY,hb⟩;have b5:=Lib.hid (below_step b4.out hb);have g5:=Lib.hid (heap_below g4.out hb);have bz5:=Lib.hid (below_step bz4.out hb);obtain ⟨H,hH⟩:∃ H,H=(rcl R AY cY).toArray:=⟨_,rfl⟩;rw[← hH];have hHr:=Lib.hid (show (Try.prog.info? 39).map (·.size)=some H.size by rw[hH];exact szRr);have hHo:=Lib.hid (show H.all (·.oneCell')=true by rw[hH];exact rcl_one _ _ _);have hHZ:=Lib.hid (show Z.size=H.size by rw[hZ25.out,hH];rfl);have hH':=Lib.hid hH;have VY:=Lib.hid hVY;clear hb hVY hH)
   |(with_reducible refine wpList_store_row rfl 39 _ _ rfl w5.heap.size H rfl rfl 39 Z (heap_alloc_last _ _) hHr.out hHZ.out hHo.out ?_;have bx6:=Lib.hid (below_setRow ((Below.refl w5.heap.size w5).alloc (Nat.le_refl _) (.cells Z 39 (0,0))) (Nat.le_refl _) H);have q6:=Lib.hid (setRow_heap (w5.alloc (.cells Z 39 (0,0))) w5.heap.size Z H 39 (0,0) (heap_alloc_last _ _));generalize (w5.alloc (.cells Z 39 (0,0))).setRow w5.heap.size H=w6 at *;have b6:=Lib.hid (below_step b5.out bx6.out);have g6:=Lib.hid (heap_below g5.out bx6.out);have bz6:=Lib.hid (below_step bz5.out bx6.out))
   |((with_reducible go_at_call 37);refine (hright.out _ b6.out).mono ?_;rintro e w7 ⟨rfl,hd⟩;have b7:=Lib.hid (below_step b6.out hd.below);have g7:=Lib.hid (heap_below g6.out hd.below);have q7:=Lib.hid (heap_below q6.out hd.below);have bz7:=Lib.hid (below_step bz6.out hd.below);have q72:=(hcel.out _ AY cY H hH'.out _ q7.out).1;clear hd)
   |((with_reducible go_at_call 38);refine (hbyt.out _ b7.out AY cY (VY.out.below b7.out)).mono ?_;rintro e w8 ⟨X,d,rfl,hd,hX,hb⟩;have b8:=Lib.hid (below_step b7.out hb);have g8:=Lib.hid (heap_below g7.out hb);have bz8:=Lib.hid (below_step bz7.out hb);have q8:=Lib.hid (heap_below q7.out hb);have C8:=Lib.hid hX;obtain ⟨XC,sC,cC⟩:=hcutc.out X d hd;obtain ⟨XK,sK,cK⟩:=hcutk.out X d hd;have sC':=Lib.hid sC;have cC':=Lib.hid cC;have sK':=Lib.hid sK;have cK':=Lib.hid cK;have d96:=Lib.hid hd;clear hb hX hd sC cC sK cK q72))
  refine start_ (n:=6) (S:=fun w'=>Below w.heap.size w w'∧w'.heap[w5.heap.size]?=some (.cells H 39 (0,0))∧Below w8.heap.size w8 w'∧Below w1.heap.size w1 w'∧w'.heap[w1.heap.size]?=some (.cells G 28 (0,0))) (ds:=[]) #[false,false,false,false,false,false] (by kernel_rfl) rfl rfl (by exact ⟨below_drew b8.out,q8.out,below_drew (Below.refl _ _),below_drew bz8.out,g8.out⟩) (fun hHeld=>?_)
  refine pure_ (i:=0) (N:=some 86) (v:=?_) (a':=?_) #[true,false,false,false,false,false] rfl rfl (by kernel_rfl) (fun _ _ _ h=>h) (Or.inl ⟨by rfl,?_⟩) ?_ ?_
  rotate_left
  ·intro w';go_simp;with_reducible rfl
  rotate_left
  ·simp only[Act.put,sZ0,sZ1,sZ2,i64_w,i32_w];rfl
  refine pure_ (i:=1) (N:=some 87) (v:=?_) (a':=?_) #[true,true,false,false,false,false] rfl rfl (by kernel_rfl) (fun _ _ _ h=>h) (Or.inl ⟨by rfl,?_⟩) ?_ ?_
  rotate_left
  ·intro w'
   refine (exec_slice_l w' 23 _ Try.underlying23 _ _ (by rfl) (.slice X 96 d) (.int .i64 64) _ (by rfl) (by rfl) (sC'.out w')).trans ?_;with_reducible rfl
  rotate_left
  ·simp only[Act.put,sZ0,sZ1,sZ2,i64_w,i32_w];rfl
  refine pure_ (i:=2) (N:=some 88) (v:=?_) (a':=?_) #[true,true,true,false,false,false] rfl rfl (by kernel_rfl) (fun _ _ _ h=>h) (Or.inl ⟨by rfl,?_⟩) ?_ ?_
  rotate_left
  ·intro w';go_simp;with_reducible rfl
  rotate_left
  ·simp only[Act.put,sZ0,sZ1,sZ2,i64_w,i32_w];rfl
  refine take_ (i:=3) (N:=some 89) (v:=?_) (a':=?_) #[true,true,true,true,false,false] rfl rfl (by kernel_rfl) (fun _ _ _ h=>h) (Or.inl ⟨by rfl,?_⟩) hHeld ?_ ?_
  rotate_left
  ·intro w' hS
   have hq:=(hcel.out w' AY cY H hH'.out _ hS.2.1).2
   go_simp;with_reducible rfl
  rotate_left
  ·simp only[Act.put,sZ0,sZ1,sZ2,i64_w,i32_w];rfl
  refine one_ (i:=4) (N:=some 90) #[true,true,true,true,true,false] rfl rfl (by kernel_rfl) (by decide) (fun K hK=>?_)
  refine goes_ Try.func20 (by kernel_rfl) rfl #[.slice XC 32 (d - 64),.slice (AY 1) 32 (cY 1)] (by rfl) rfl rfl (by (try simp only[List.map_toArray,List.map_cons,List.map_nil]);first | done | rfl) ?_
  have hy1:=(VY.out.below hHeld.1) 1 (by omega)
  refine (hsbt.out _ CD R.check lc.out lr.out XC (d - 64) (AY 1) (cY 1) (by rw[← E64.out];exact cC'.out _ (Kd.C_below C8.out hHeld.2.2.1)) (by have:=d96.out;omega) (by have:=hy1.1;rw[show (rlist R 1).length=32 from lr.out] at this;exact this) (by have:=hy1.2;rw[show (rlist R 1).length=32 from lr.out] at this;exact this)).mono ?_
  rintro e w9 ⟨rfl,hd⟩
  refine ⟨_,rfl,?_⟩
  refine hK.out _ _ ⟨below_step hHeld.1 hd.below,heap_below hHeld.2.1 hd.below,below_step hHeld.2.2.1 hd.below,below_step hHeld.2.2.2.1 hd.below,heap_below hHeld.2.2.2.2 hd.below⟩ (fun hHeld=>?_)
  have b9:=Lib.hid hHeld.1
  have q9:=Lib.hid hHeld.2.1
  have bw9:=Lib.hid hHeld.2.2.1
  have bz9:=Lib.hid hHeld.2.2.2.1
  have g9:=Lib.hid hHeld.2.2.2.2
  rw[decide_eq_true HK.out]
  clear hd hy1
  clear hK K;refine norm_ (a':=?_) ?_ ?_
  rotate_left
  ·show Act.put _ (some 90) _=_
   simp only[Act.put,sZ0,sZ1,sZ2,i64_w,i32_w];rfl
  refine pure_ (i:=5) (N:=some 91) (v:=?_) (a':=?_) #[true,true,true,true,true,true] rfl rfl (by kernel_rfl) (fun _ _ _ h=>h) (Or.inl ⟨by rfl,?_⟩) ?_ ?_
  rotate_left
  ·intro w';go_simp;with_reducible rfl
  rotate_left
  ·simp only[Act.put,sZ0,sZ1,sZ2,i64_w,i32_w];rfl
  refine done_ (by kernel_rfl) ?_
  have C9:=Lib.hid (Kd.C_below C8.out bw9.out)
  go_wp2_with (first
   |(refine wpList_slice_lh rfl 23 _ Try.underlying23 _ _ _ rfl (.slice X 96 d) (.int .i64 32) (.int .i64 64) _ rfl rfl rfl (sK'.out _) ?_)
   |((with_reducible go_at_call 34);refine (hrf.out _ b9.out XK (d - 32) (by rw[← E32.out];exact cK'.out _ C9.out) (by have:=d96.out;omega)).mono ?_;rintro e w10 ⟨rfl,hb⟩;have b10:=Lib.hid (below_step b9.out hb);have q10:=Lib.hid (heap_below q9.out hb);have g10:=Lib.hid (heap_below g9.out hb);have bz10:=Lib.hid (below_step bz9.out hb);have bw10:=Lib.hid (below_step bw9.out hb);clear hb))
  have hcut0:=Lib.hid (cut_to X 96 d 32 (by have:=d96.out;omega))
  have hR17:=Lib.hid (fun (W:World) (h1:Below w.heap.size w W) (h2:Below w1.heap.size w1 W)=>hsame.out AX AY cX cY W (V1.out.below h2) (VY.out.below h1))
  rw[← hG'.out,← hH'.out] at hR17
  refine start_ (n:=24) (S:=fun w'=>Below w.heap.size w w'∧Below w1.heap.size w1 w'∧Below w8.heap.size w8 w'∧w'.heap[w1.heap.size]?=some (.cells G 28 (0,0))∧w'.heap[w5.heap.size]?=some (.cells H 39 (0,0))) (ds:=[]) #[false,false,false,false,false,false,false,false,false,false,false,false,false,false,false,false,false,false,false,false,false,false,false,false] (by kernel_rfl) rfl rfl (by exact ⟨below_drew b10.out,below_drew bz10.out,below_drew bw10.out,g10.out,q10.out⟩) (fun hHeld=>?_)
  refine pure_ (i:=0) (N:=some 113) (v:=?_) (a':=?_) #[true,false,false,false,false,false,false,false,false,false,false,false,false,false,false,false,false,false,false,false,false,false,false,false] rfl rfl (by kernel_rfl) (fun _ _ _ h=>h) (Or.inl ⟨by rfl,?_⟩) ?_ ?_
  rotate_left
  ·intro w';go_simp;with_reducible rfl
  rotate_left
  ·simp only[Act.put,sZ0,sZ1,sZ2,i64_w,i32_w];rfl
  refine pure_ (i:=1) (N:=some 114) (v:=?_) (a':=?_) #[true,true,false,false,false,false,false,false,false,false,false,false,false,false,false,false,false,false,false,false,false,false,false,false] rfl rfl (by kernel_rfl) (fun _ _ _ h=>h) (Or.inl ⟨by rfl,?_⟩) ?_ ?_
  rotate_left
  ·intro w';go_simp;with_reducible rfl
  rotate_left
  ·simp only[Act.put,sZ0,sZ1,sZ2,i64_w,i32_w];rfl
  refine pure_ (i:=2) (N:=some 115) (v:=?_) (a':=?_) #[true,true,true,false,false,false,false,false,false,false,false,false,false,false,false,false,false,false,false,false,false,false,false,false] rfl rfl (by kernel_rfl) (fun _ _ _ h=>h) (Or.inl ⟨by rfl,?_⟩) ?_ ?_
  rotate_left
  ·intro w';go_simp;with_reducible rfl
  rotate_left
  ·simp only[Act.put,sZ0,sZ1,sZ2,i64_w,i32_w];rfl
  refine take_ (i:=3) (N:=some 116) (v:=?_) (a':=?_) #[true,true,true,true,false,false,false,false,false,false,false,false,false,false,false,false,false,false,false,false,false,false,false,false] rfl rfl (by kernel_rfl) (fun _ _ _ h=>h) (Or.inl ⟨by rfl,?_⟩) hHeld ?_ ?_
  rotate_left
  ·intro w' hS
   refine (exec_load_row w' 28 _ (by rfl) w1.heap.size (by rfl) 28 G (0,0) _ hS.2.2.2.1 Try.underlying28 rfl hGs.out).trans ?_;show Result.ok (Next.value (Value.agg G)) w'=_;with_reducible rfl
  rotate_left
  ·simp only[Act.put,sZ0,sZ1,sZ2,i64_w,i32_w];rfl
  refine take_ (i:=5) (N:=some 118) (v:=?_) (a':=?_) #[true,true,true,true,false,true,false,false,false,false,false,false,false,false,false,false,false,false,false,false,false,false,false,false] rfl rfl (by kernel_rfl) (fun _ _ _ h=>h) (Or.inl ⟨by rfl,?_⟩) hHeld ?_ ?_
  rotate_left
  ·intro w' hS
   refine (exec_load_row w' 39 _ (by rfl) w5.heap.size (by rfl) 39 H (0,0) _ hS.2.2.2.2 Try.underlying39 rfl hHr.out).trans ?_;show Result.ok (Next.value (Value.agg H)) w'=_;with_reducible rfl
  rotate_left
  ·simp only[Act.put,sZ0,sZ1,sZ2,i64_w,i32_w];rfl
  refine one_ (i:=4) (N:=some 117) #[true,true,true,true,true,true,false,false,false,false,false,false,false,false,false,false,false,false,false,false,false,false,false,false] rfl rfl (by kernel_rfl) (by decide) (fun K hK=>?_)
  refine goes_ Try.func15 (by kernel_rfl) rfl #[.agg G] (by rfl) rfl rfl (by (try simp only[List.map_toArray,List.map_cons,List.map_nil]);first | done | rfl) ?_
  refine (hof1.out _).mono ?_
  rintro e w11 ⟨rfl,hb⟩
  refine ⟨_,rfl,?_⟩
  refine hK.out _ _ ⟨below_step hHeld.1 hb,below_step hHeld.2.1 hb,below_step hHeld.2.2.1 hb,heap_below hHeld.2.2.2.1 hb,heap_below hHeld.2.2.2.2 hb⟩ (fun hHeld=>?_)
  clear hb
  clear hK K;refine norm_ (a':=?_) ?_ ?_
  rotate_left
  ·show Act.put _ (some 117) _=_
   simp only[Act.put,sZ0,sZ1,sZ2,i64_w,i32_w];rfl
  refine one_ (i:=6) (N:=some 119) #[true,true,true,true,true,true,true,false,false,false,false,false,false,false,false,false,false,false,false,false,false,false,false,false] rfl rfl (by kernel_rfl) (by decide) (fun K hK=>?_)
  refine goes_ Try.func16 (by kernel_rfl) rfl #[.agg G,.agg H] (by rfl) rfl rfl (by (try simp only[List.map_toArray,List.map_cons,List.map_nil]);first | done | rfl) ?_
  refine (hR17.out _ hHeld.1 hHeld.2.1).mono ?_
  rintro e w12 ⟨rfl,hb⟩
  refine ⟨_,rfl,?_⟩
  refine hK.out _ _ ⟨below_step hHeld.1 hb,below_step hHeld.2.1 hb,below_step hHeld.2.2.1 hb,heap_below hHeld.2.2.2.1 hb,heap_below hHeld.2.2.2.2 hb⟩ (fun hHeld=>?_)
  clear hb
  clear hK K;refine norm_ (a':=?_) ?_ ?_
  rotate_left
  ·show Act.put _ (some 119) _=_
   simp only[Act.put,sZ0,sZ1,sZ2,i64_w,i32_w];rfl
  refine pure_ (i:=7) (N:=some 120) (v:=?_) (a':=?_) #[true,true,true,true,true,true,true,true,false,false,false,false,false,false,false,false,false,false,false,false,false,false,false,false] rfl rfl (by kernel_rfl) (fun _ _ _ h=>h) (Or.inl ⟨by rfl,?_⟩) ?_ ?_
  rotate_left
  ·intro w';go_simp;with_reducible rfl
  rotate_left
  ·simp only[Act.put,sZ0,sZ1,sZ2,i64_w,i32_w];rfl
  refine pure_ (i:=8) (N:=some 121) (v:=?_) (a':=?_) #[true,true,true,true,true,true,true,true,true,false,false,false,false,false,false,false,false,false,false,false,false,false,false,false] rfl rfl (by kernel_rfl) (fun _ _ _ h=>h) (Or.inl ⟨by rfl,?_⟩) ?_ ?_
  rotate_left
  ·intro w';go_simp;with_reducible rfl
  rotate_left
  ·simp only[Act.put,sZ0,sZ1,sZ2,i64_w,i32_w];rfl
  refine pure_ (i:=9) (N:=some 122) (v:=?_) (a':=?_) #[true,true,true,true,true,true,true,true,true,true,false,false,false,false,false,false,false,false,false,false,false,false,false,false] rfl rfl (by kernel_rfl) (fun _ _ _ h=>h) (Or.inl ⟨by rfl,?_⟩) ?_ ?_
  rotate_left
  ·intro w';go_simp;with_reducible rfl
  rotate_left
  ·simp only[Act.put,sZ0,sZ1,sZ2,i64_w,i32_w];rfl
  refine pure_ (i:=10) (N:=some 123) (v:=?_) (a':=?_) #[true,true,true,true,true,true,true,true,true,true,true,false,false,false,false,false,false,false,false,false,false,false,false,false] rfl rfl (by kernel_rfl) (fun _ _ _ h=>h) (Or.inl ⟨by rfl,?_⟩) ?_ ?_
  rotate_left
  ·intro w';go_simp;with_reducible rfl
  rotate_left
  ·simp only[Act.put,sZ0,sZ1,sZ2,i64_w,i32_w];rfl
  refine pure_ (i:=11) (N:=some 124) (v:=?_) (a':=?_) #[true,true,true,true,true,true,true,true,true,true,true,true,false,false,false,false,false,false,false,false,false,false,false,false] rfl rfl (by kernel_rfl) (fun _ _ _ h=>h) (Or.inl ⟨by rfl,?_⟩) ?_ ?_
  rotate_left
  ·intro w'
   refine (exec_slice_h w' 23 _ Try.underlying23 _ _ (by rfl) (.slice X 96 d) (.int .i64 32) _ (by rfl) (by rfl) (hcut0.out w')).trans ?_;with_reducible rfl
  rotate_left
  ·simp only[Act.put,sZ0,sZ1,sZ2,i64_w,i32_w];rfl
  refine one_ (i:=12) (N:=some 125) #[true,true,true,true,true,true,true,true,true,true,true,true,true,false,false,false,false,false,false,false,false,false,false,false] rfl rfl (by kernel_rfl) (by decide) (fun K hK=>?_)
  refine goes_ Try.func20 (by kernel_rfl) rfl #[.slice X1 32 d1,.slice X 32 d] (by rfl) rfl rfl (by (try simp only[List.map_toArray,List.map_cons,List.map_nil]);first | done | rfl) ?_
  refine (hsbt.out _ KK KK l0.out l0.out X1 d1 X d (Kd.C_below K1.out hHeld.2.1) d1'.out (by rw[← E0.out];exact C_take (Kd.C_below C8.out hHeld.2.2.1) 32 (by omega)) (by have:=d96.out;omega)).mono ?_
  rintro e w13 ⟨rfl,hd⟩
  refine ⟨_,rfl,?_⟩
  refine hK.out _ _ ⟨below_step hHeld.1 hd.below,below_step hHeld.2.1 hd.below,below_step hHeld.2.2.1 hd.below,heap_below hHeld.2.2.2.1 hd.below,heap_below hHeld.2.2.2.2 hd.below⟩ (fun hHeld=>?_)
  rw[decide_eq_true rfl]
  clear hd
  clear hK K;refine norm_ (a':=?_) ?_ ?_
  rotate_left
  ·show Act.put _ (some 125) _=_
   simp only[Act.put,sZ0,sZ1,sZ2,i64_w,i32_w];rfl
  refine pure_ (i:=13) (N:=some 126) (v:=?_) (a':=?_) #[true,true,true,true,true,true,true,true,true,true,true,true,true,true,false,false,false,false,false,false,false,false,false,false] rfl rfl (by kernel_rfl) (fun _ _ _ h=>h) (Or.inl ⟨by rfl,?_⟩) ?_ ?_
  rotate_left
  ·intro w';go_simp;with_reducible rfl
  rotate_left
  ·simp only[Act.put,sZ0,sZ1,sZ2,i64_w,i32_w];rfl
  refine pure_ (i:=14) (N:=some 127) (v:=?_) (a':=?_) #[true,true,true,true,true,true,true,true,true,true,true,true,true,true,true,false,false,false,false,false,false,false,false,false] rfl rfl (by kernel_rfl) (fun _ _ _ h=>h) (Or.inl ⟨by rfl,?_⟩) ?_ ?_
  rotate_left
  ·intro w';go_simp;with_reducible rfl
  rotate_left
  ·simp only[Act.put,sZ0,sZ1,sZ2,i64_w,i32_w];rfl
  refine pure_ (i:=15) (N:=some 128) (v:=?_) (a':=?_) #[true,true,true,true,true,true,true,true,true,true,true,true,true,true,true,true,false,false,false,false,false,false,false,false] rfl rfl (by kernel_rfl) (fun _ _ _ h=>h) (Or.inl ⟨by rfl,?_⟩) ?_ ?_
  rotate_left
  ·intro w';go_simp;with_reducible rfl
  rotate_left
  ·simp only[Act.put,sZ0,sZ1,sZ2,i64_w,i32_w];rfl
  refine pure_ (i:=16) (N:=some 129) (v:=?_) (a':=?_) #[true,true,true,true,true,true,true,true,true,true,true,true,true,true,true,true,true,false,false,false,false,false,false,false] rfl rfl (by kernel_rfl) (fun _ _ _ h=>h) (Or.inl ⟨by rfl,?_⟩) ?_ ?_
  rotate_left
  ·intro w';go_simp;with_reducible rfl
  rotate_left
  ·simp only[Act.put,sZ0,sZ1,sZ2,i64_w,i32_w];rfl
  refine pure_ (i:=17) (N:=some 130) (v:=?_) (a':=?_) #[true,true,true,true,true,true,true,true,true,true,true,true,true,true,true,true,true,true,false,false,false,false,false,false] rfl rfl (by kernel_rfl) (fun _ _ _ h=>h) (Or.inl ⟨by rfl,?_⟩) ?_ ?_
  rotate_left
  ·intro w'
   refine (exec_slice_lh w' 23 _ Try.underlying23 _ _ _ (by rfl) (.slice X 96 d) (.int .i64 32) (.int .i64 64) _ (by rfl) (by rfl) (by rfl) (sK'.out w')).trans ?_;with_reducible rfl
  rotate_left
  ·simp only[Act.put,sZ0,sZ1,sZ2,i64_w,i32_w];rfl
  refine one_ (i:=18) (N:=some 131) #[true,true,true,true,true,true,true,true,true,true,true,true,true,true,true,true,true,true,true,false,false,false,false,false] rfl rfl (by kernel_rfl) (by decide) (fun K hK=>?_)
  refine goes_ Try.func20 (by kernel_rfl) rfl #[.slice X2 32 d2,.slice XK 32 (d - 32)] (by rfl) rfl rfl (by (try simp only[List.map_toArray,List.map_cons,List.map_nil]);first | done | rfl) ?_
  refine (hsbt.out _ KD KD lk.out lk.out X2 d2 XK (d - 32) (Kd.C_below K2.out hHeld.2.1) d2'.out (by rw[← E32.out];exact cK'.out _ (Kd.C_below C8.out hHeld.2.2.1)) (by have:=d96.out;omega)).mono ?_
  rintro e w14 ⟨rfl,hd⟩
  refine ⟨_,rfl,?_⟩
  refine hK.out _ _ ⟨below_step hHeld.1 hd.below,below_step hHeld.2.1 hd.below,below_step hHeld.2.2.1 hd.below,heap_below hHeld.2.2.2.1 hd.below,heap_below hHeld.2.2.2.2 hd.below⟩ (fun hHeld=>?_)
  rw[decide_eq_true rfl]
  clear hd
  clear hK K;refine norm_ (a':=?_) ?_ ?_
  rotate_left
  ·show Act.put _ (some 131) _=_
   simp only[Act.put,sZ0,sZ1,sZ2,i64_w,i32_w];rfl
  refine pure_ (i:=19) (N:=some 132) (v:=?_) (a':=?_) #[true,true,true,true,true,true,true,true,true,true,true,true,true,true,true,true,true,true,true,true,false,false,false,false] rfl rfl (by kernel_rfl) (fun _ _ _ h=>h) (Or.inl ⟨by rfl,?_⟩) ?_ ?_
  rotate_left
  ·intro w';go_simp;with_reducible rfl
  rotate_left
  ·simp only[Act.put,sZ0,sZ1,sZ2,i64_w,i32_w];rfl
  refine pure_ (i:=20) (N:=some 133) (v:=?_) (a':=?_) #[true,true,true,true,true,true,true,true,true,true,true,true,true,true,true,true,true,true,true,true,true,false,false,false] rfl rfl (by kernel_rfl) (fun _ _ _ h=>h) (Or.inl ⟨by rfl,?_⟩) ?_ ?_
  rotate_left
  ·intro w';go_simp;with_reducible rfl
  rotate_left
  ·simp only[Act.put,sZ0,sZ1,sZ2,i64_w,i32_w];rfl
  refine one_ (i:=21) (N:=some 134) #[true,true,true,true,true,true,true,true,true,true,true,true,true,true,true,true,true,true,true,true,true,true,false,false] rfl rfl (by kernel_rfl) (by decide) (fun K hK=>?_)
  refine goes_ Try.func10 (by kernel_rfl) rfl #[] (by rfl) rfl rfl (by (try simp only[List.map_toArray,List.map_cons,List.map_nil]);first | done | rfl) ?_
  refine (hawk.out _).mono ?_
  rintro e w15 ⟨rfl,hb⟩
  refine ⟨_,rfl,?_⟩
  refine hK.out _ _ ⟨below_step hHeld.1 hb,below_step hHeld.2.1 hb,below_step hHeld.2.2.1 hb,heap_below hHeld.2.2.2.1 hb,heap_below hHeld.2.2.2.2 hb⟩ (fun hHeld=>?_)
  have b15:=Lib.hid hHeld.1
  clear hb
  clear hK K;refine norm_ (a':=?_) ?_ ?_
  rotate_left
  ·show Act.put _ (some 134) _=_
   simp only[Act.put,sZ0,sZ1,sZ2,i64_w,i32_w];rfl
  refine pure_ (i:=22) (N:=some 135) (v:=?_) (a':=?_) #[true,true,true,true,true,true,true,true,true,true,true,true,true,true,true,true,true,true,true,true,true,true,true,false] rfl rfl (by kernel_rfl) (fun _ _ _ h=>h) (Or.inl ⟨by rfl,?_⟩) ?_ ?_
  rotate_left
  ·intro w';go_simp;with_reducible rfl
  rotate_left
  ·simp only[Act.put,sZ0,sZ1,sZ2,i64_w,i32_w];rfl
  refine pure_ (i:=23) (N:=some 6) (v:=?_) (a':=?_) #[true,true,true,true,true,true,true,true,true,true,true,true,true,true,true,true,true,true,true,true,true,true,true,true] rfl rfl (by kernel_rfl) (fun _ _ _ h=>h) (Or.inl ⟨by rfl,?_⟩) ?_ ?_
  rotate_left
  ·intro w';go_simp;with_reducible rfl
  rotate_left
  ·simp only[Act.put,sZ0,sZ1,sZ2,i64_w,i32_w];rfl
  refine done_ (by kernel_rfl) ?_
  go_wp2_with fail
  go_ret
  exact ⟨rfl,b15.out⟩
theorem RecordOpens_walk (w:World) (A0:Option Addr) (c0:Nat) (x0:List Int) (b0:x0.length≤c0) (C0:Kd.C (Kd.int .u8) w A0 x0.length x0) (w0:x0.length≤140737488351232∧∀ x ∈ x0,(Lit.int .u8 x).wf=true) (A1:Option Addr) (c1:Nat) (x1:List Int) (b1:x1.length≤c1) (C1:Kd.C (Kd.int .u8) w A1 x1.length x1) (w1:x1.length≤140737488351232∧∀ x ∈ x1,(Lit.int .u8 x).wf=true) (a2:Int) (w2:(Lit.int .i64 a2).wf=true) :
  Calls Try.prog 7 #[.slice A0 x0.length c0,.slice A1 x1.length c1,.int .i64 a2] w fun e w'=>e=.returned (.bool true)∧Below w.heap.size w w':=by
 by_cases h4:4<a2∧a2≤1000
 ·exact opens_big A0 _ c0 A1 _ c1 a2 w h4.1 h4.2
 by_cases hl:x0.length=624
 ·cases ho:rcRead x0 with
  |none=>exact opens_none A0 c0 x0 A1 c1 x1 a2 w C0 b0 (byt_wf w0.2) C1 b1 (byt_wf w1.2) h4 hl ho
  |some R=>
   cases hr:rightB x1.length a2 with
   |false=>exact opens_no A0 c0 x0 A1 c1 x1 a2 w C0 b0 (byt_wf w0.2) C1 b1 (byt_wf w1.2) h4 hl R ho hr
   |true=>
    by_cases hk:checkD x1 R.salt a2=R.check
    ·cases hf:fitsB x0 (keyD x1 R.salt a2) with
     |false=>exact opens_sixteen A0 c0 x0 A1 c1 x1 a2 w C0 b0 (byt_wf w0.2) C1 b1 (byt_wf w1.2) h4 hl R ho hr hk hf
     |true=>exact opens_ok A0 c0 x0 A1 c1 x1 a2 w C0 b0 (byt_wf w0.2) C1 b1 (byt_wf w1.2) h4 hl R ho hr hk hf
    exact opens_nine A0 c0 x0 A1 c1 x1 a2 w C0 b0 (byt_wf w0.2) C1 b1 (byt_wf w1.2) h4 hl R ho hr hk
 exact opens_short A0 c0 x0 A1 c1 x1 a2 w C0 b0 (byt_wf w0.2) C1 b1 (byt_wf w1.2) h4 hl
end Go.Proofs.Ytbajioiiaamokaa.Own
