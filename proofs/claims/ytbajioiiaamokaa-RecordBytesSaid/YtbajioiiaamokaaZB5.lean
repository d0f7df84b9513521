/- QBx3, pruned (slim.py). -/
import Derived.Test.YtbajioiiaamokaaZB4
namespace Go.Proofs.Ytbajioiiaamokaa.Own
end Go.Proofs.Ytbajioiiaamokaa.Own
namespace Go.Proofs.Ytbajioiiaamokaa.QB
open Go.RowKit Go.Proofs.Ytbajioiiaamokaa.Own Go.Proofs.YtbajioiiaamokaaW.PrintWords Go.Proofs.YtbajioiiaamokaaW.PrintLast Go.Proofs.YtbajioiiaamokaaW.PrintMore
attribute [local go_sem] max2_int min2_int max_two min_two max_three min_three max_four min_four
set_option linter.unusedVariables false
set_option linter.unusedSimpArgs false
def slot_Right.f (a0_0:Bool) (a0_1:Int) (a0_2:Int) (a0_3:Int) (l0_4:List Int):Option (Bool):=if a0_0=true then (if a0_1≥1 then (if a0_1≤65535 then (some ((l0_4.length:Int) == 104)) else (some false)) else (some false)) else (if a0_1=0 then (if a0_2=0 then (if a0_3=0 then (some ((l0_4.length:Int) == 0)) else (some false)) else (some false)) else (some false))
set_option maxHeartbeats 8000000 in
set_option maxRecDepth 100000 in
theorem slot_Right.calls (a0_0:Bool) (a0_1:Int) (a0_2:Int) (a0_3:Int) (A0_4:Option Addr) (c0_4:Nat) (l0_4:List Int) (r:Bool) (w:World) (hr0_4:Kd.C (Kd.int .u8) w A0_4 l0_4.length l0_4) (hc0_4:l0_4.length≤c0_4) (h:slot_Right.f a0_0 a0_1 a0_2 a0_3 l0_4=some r) :
  Calls Try.prog 45 #[.agg #[.bool a0_0,.int .i64 a0_1,.int .u64 a0_2,.int .u64 a0_3,.slice A0_4 l0_4.length c0_4]] w fun e w'=>e=.returned (.bool r)∧Below w.heap.size w w':=by
 have hu25:=Try.underlying25
 have HR0_4:=Aside0.mk hr0_4
 have HC0_4:=Aside0.mk hc0_4
 clear hr0_4 hc0_4
 have HB:=Aside0.mk (Below.refl w.heap.size w)
 have H:(if a0_0=true then (if a0_1≥1 then (if a0_1≤65535 then (some ((l0_4.length:Int) == 104)) else (some false)) else (some false)) else (if a0_1=0 then (if a0_2=0 then (if a0_3=0 then (some ((l0_4.length:Int) == 0)) else (some false)) else (some false)) else (some false)))=some r:=h
 clear h
 by_cases c2:a0_0=true
 ·subst c2
  have H1:(if a0_1≥1 then (if a0_1≤65535 then (some ((l0_4.length:Int) == 104)) else (some false)) else (some false))=some r:=by rw[if_pos rfl] at H;exact H
  clear H
  have H:=H1
  clear H1
  by_cases c3:a0_1≥1
  ·rw[if_pos c3] at H
   have c3b0:decide (1≤a0_1)=true:=decide_eq_true c3
   clear c3
   by_cases c4:a0_1≤65535
   ·rw[if_pos c4] at H
    have c4b0:decide (a0_1≤65535)=true:=decide_eq_true c4
    clear c4
    obtain rfl:=Option.some.inj H
    go_enter Try.func45,Try.ntmps45
    go_wp2_with (first | ((with_reducible refine gate_dst (N:=1) rfl ?_);(try (refine gate_guard (by rfl) ?_;dsimp only));refine box_event ?hg (N:=1) ?hd (cs:=#[.bool true,.int .i64 a0_1,.int .u64 a0_2,.int .u64 a0_3,.slice A0_4 l0_4.length c0_4]) (t:=25) ?hr ?_;(case hd=>rfl);(case hg=>rfl);(case hr=>first | (go_simp;done) | (go_simp;rfl) | (go_simp;simp only[IntKind.wrap_u32,Int.emod_add_emod,Int.add_emod_emod]));intro gb101 hg w5 hbox hb;have n0_:=Aside0.mk (below_step (by repeat (first | (with_reducible first | exact HB.out | apply below_alloc | apply pw_below_drewN | apply below_drew1) | exact HB.out)) hb);have n1_:=Aside0.mk (hbox);have n2_:=Aside0.mk ((by rw[hg];exact (below_size (by repeat (first | (with_reducible first | exact HB.out | apply below_alloc | apply pw_below_drewN | apply below_drew1) | exact HB.out))):w.heap.size≤gb101));have n3_:=Aside0.mk ((by rw[hg];exact (below_size (by repeat (first | (with_reducible first | exact HB.out | apply below_alloc | apply pw_below_drewN | apply below_drew1) | exact HB.out))):w.heap.size≤gb101));clear HB;have HB:=n0_;have BK101:=n1_;have GW101:=n2_;have GE101:=n3_;clear n0_ n1_ n2_ n3_;clear hb hbox hg;have hcz6_0:w5.cell? ⟨gb101,0,none⟩=some (.bool true):=(blk_cell BK101.out 0).trans rfl;have hcz6_1:w5.cell? ⟨gb101,1,none⟩=some (.int .i64 a0_1):=(blk_cell BK101.out 1).trans rfl;have hcz6_2:w5.cell? ⟨gb101,2,none⟩=some (.int .u64 a0_2):=(blk_cell BK101.out 2).trans rfl;have hcz6_3:w5.cell? ⟨gb101,3,none⟩=some (.int .u64 a0_3):=(blk_cell BK101.out 3).trans rfl;have hcz6_4:w5.cell? ⟨gb101,4,none⟩=some (.slice A0_4 l0_4.length c0_4):=(blk_cell BK101.out 4).trans rfl;have hfz6_0:=blk_frozen BK101.out 0;have hfz6_1:=blk_frozen BK101.out 1;have hfz6_2:=blk_frozen BK101.out 2;have hfz6_3:=blk_frozen BK101.out 3;have hfz6_4:=blk_frozen BK101.out 4))
    go_ret
    exact ⟨by first | rfl | (simp[errW_none,errW_some] <;> rfl) | (simp[*,errW_none,errW_some] <;> rfl),by repeat (first | (with_reducible first | exact HB.out | apply below_alloc | apply pw_below_drewN | apply below_drew1 | refine below_set ?_ GE101.out) | exact HB.out)⟩
   rw[if_neg c4] at H
   have c4b0:decide (a0_1≤65535)=false:=decide_eq_false c4
   clear c4
   obtain rfl:=Option.some.inj H
   go_enter Try.func45,Try.ntmps45
   go_wp2_with (first | ((with_reducible refine gate_dst (N:=1) rfl ?_);(try (refine gate_guard (by rfl) ?_;dsimp only));refine box_event ?hg (N:=1) ?hd (cs:=#[.bool true,.int .i64 a0_1,.int .u64 a0_2,.int .u64 a0_3,.slice A0_4 l0_4.length c0_4]) (t:=25) ?hr ?_;(case hd=>rfl);(case hg=>rfl);(case hr=>first | (go_simp;done) | (go_simp;rfl) | (go_simp;simp only[IntKind.wrap_u32,Int.emod_add_emod,Int.add_emod_emod]));intro gb101 hg w7 hbox hb;have n0_:=Aside0.mk (below_step (by repeat (first | (with_reducible first | exact HB.out | apply below_alloc | apply pw_below_drewN | apply below_drew1) | exact HB.out)) hb);have n1_:=Aside0.mk (hbox);have n2_:=Aside0.mk ((by rw[hg];exact (below_size (by repeat (first | (with_reducible first | exact HB.out | apply below_alloc | apply pw_below_drewN | apply below_drew1) | exact HB.out))):w.heap.size≤gb101));have n3_:=Aside0.mk ((by rw[hg];exact (below_size (by repeat (first | (with_reducible first | exact HB.out | apply below_alloc | apply pw_below_drewN | apply below_drew1) | exact HB.out))):w.heap.size≤gb101));clear HB;have HB:=n0_;have BK101:=n1_;have GW101:=n2_;have GE101:=n3_;clear n0_ n1_ n2_ n3_;clear hb hbox hg;have hcz8_0:w7.cell? ⟨gb101,0,none⟩=some (.bool true):=(blk_cell BK101.out 0).trans rfl;have hcz8_1:w7.cell? ⟨gb101,1,none⟩=some (.int .i64 a0_1):=(blk_cell BK101.out 1).trans rfl;have hcz8_2:w7.cell? ⟨gb101,2,none⟩=some (.int .u64 a0_2):=(blk_cell BK101.out 2).trans rfl;have hcz8_3:w7.cell? ⟨gb101,3,none⟩=some (.int .u64 a0_3):=(blk_cell BK101.out 3).trans rfl;have hcz8_4:w7.cell? ⟨gb101,4,none⟩=some (.slice A0_4 l0_4.length c0_4):=(blk_cell BK101.out 4).trans rfl;have hfz8_0:=blk_frozen BK101.out 0;have hfz8_1:=blk_frozen BK101.out 1;have hfz8_2:=blk_frozen BK101.out 2;have hfz8_3:=blk_frozen BK101.out 3;have hfz8_4:=blk_frozen BK101.out 4))
   go_ret
   exact ⟨by first | rfl | (simp[errW_none,errW_some] <;> rfl) | (simp[*,errW_none,errW_some] <;> rfl),by repeat (first | (with_reducible first | exact HB.out | apply below_alloc | apply pw_below_drewN | apply below_drew1 | refine below_set ?_ GE101.out) | exact HB.out)⟩
  rw[if_neg c3] at H
  have c3b0:decide (1≤a0_1)=false:=decide_eq_false c3
  clear c3
  obtain rfl:=Option.some.inj H
  go_enter Try.func45,Try.ntmps45
  go_wp2_with (first | ((with_reducible refine gate_dst (N:=1) rfl ?_);(try (refine gate_guard (by rfl) ?_;dsimp only));refine box_event ?hg (N:=1) ?hd (cs:=#[.bool true,.int .i64 a0_1,.int .u64 a0_2,.int .u64 a0_3,.slice A0_4 l0_4.length c0_4]) (t:=25) ?hr ?_;(case hd=>rfl);(case hg=>rfl);(case hr=>first | (go_simp;done) | (go_simp;rfl) | (go_simp;simp only[IntKind.wrap_u32,Int.emod_add_emod,Int.add_emod_emod]));intro gb101 hg w9 hbox hb;have n0_:=Aside0.mk (below_step (by repeat (first | (with_reducible first | exact HB.out | apply below_alloc | apply pw_below_drewN | apply below_drew1) | exact HB.out)) hb);have n1_:=Aside0.mk (hbox);have n2_:=Aside0.mk ((by rw[hg];exact (below_size (by repeat (first | (with_reducible first | exact HB.out | apply below_alloc | apply pw_below_drewN | apply below_drew1) | exact HB.out))):w.heap.size≤gb101));have n3_:=Aside0.mk ((by rw[hg];exact (below_size (by repeat (first | (with_reducible first | exact HB.out | apply below_alloc | apply pw_below_drewN | apply below_drew1) | exact HB.out))):w.heap.size≤gb101));clear HB;have HB:=n0_;have BK101:=n1_;have GW101:=n2_;have GE101:=n3_;clear n0_ n1_ n2_ n3_;clear hb hbox hg;have hcz10_0:w9.cell? ⟨gb101,0,none⟩=some (.bool true):=(blk_cell BK101.out 0).trans rfl;have hcz10_1:w9.cell? ⟨gb101,1,none⟩=some (.int .i64 a0_1):=(blk_cell BK101.out 1).trans rfl;have hcz10_2:w9.cell? ⟨gb101,2,none⟩=some (.int .u64 a0_2):=(blk_cell BK101.out 2).trans rfl;have hcz10_3:w9.cell? ⟨gb101,3,none⟩=some (.int .u64 a0_3):=(blk_cell BK101.out 3).trans rfl;have hcz10_4:w9.cell? ⟨gb101,4,none⟩=some (.slice A0_4 l0_4.length c0_4):=(blk_cell BK101.out 4).trans rfl;have hfz10_0:=blk_frozen BK101.out 0;have hfz10_1:=blk_frozen BK101.out 1;have hfz10_2:=blk_frozen BK101.out 2;have hfz10_3:=blk_frozen BK101.out 3;have hfz10_4:=blk_frozen BK101.out 4))
  go_ret
  exact ⟨by first | rfl | (simp[errW_none,errW_some] <;> rfl) | (simp[*,errW_none,errW_some] <;> rfl),by repeat (first | (with_reducible first | exact HB.out | apply below_alloc | apply pw_below_drewN | apply below_drew1 | refine below_set ?_ GE101.out) | exact HB.out)⟩
 replace c2:=Bool.eq_false_iff.mpr c2
 subst c2
 have H1:(if a0_1=0 then (if a0_2=0 then (if a0_3=0 then (some ((l0_4.length:Int) == 0)) else (some false)) else (some false)) else (some false))=some r:=by rw[if_neg (show ¬ (false=true) by decide)] at H;exact H
 clear H
 have H:=H1
 clear H1
 by_cases c11:a0_1=0
 ·rw[if_pos c11] at H
  have c11b0:(a0_1 == 0)=true:=beq_iff_eq.mpr c11
  have c11b1:(a0_1 != 0)=false:=bne_eq_false_iff_eq.mpr c11
  clear c11
  by_cases c12:a0_2=0
  ·rw[if_pos c12] at H
   have c12b0:(a0_2 == 0)=true:=beq_iff_eq.mpr c12
   have c12b1:(a0_2 != 0)=false:=bne_eq_false_iff_eq.mpr c12
   clear c12
   by_cases c13:a0_3=0
   ·rw[if_pos c13] at H
    have c13b0:(a0_3 == 0)=true:=beq_iff_eq.mpr c13
    have c13b1:(a0_3 != 0)=false:=bne_eq_false_iff_eq.mpr c13
    clear c13
    obtain rfl:=Option.some.inj H
    go_enter Try.func45,Try.ntmps45
    go_wp2_with (first | ((with_reducible refine gate_dst (N:=1) rfl ?_);(try (refine gate_guard (by rfl) ?_;dsimp only));refine box_event ?hg (N:=1) ?hd (cs:=#[.bool false,.int .i64 a0_1,.int .u64 a0_2,.int .u64 a0_3,.slice A0_4 l0_4.length c0_4]) (t:=25) ?hr ?_;(case hd=>rfl);(case hg=>rfl);(case hr=>first | (go_simp;done) | (go_simp;rfl) | (go_simp;simp only[IntKind.wrap_u32,Int.emod_add_emod,Int.add_emod_emod]));intro gb101 hg w14 hbox hb;have n0_:=Aside0.mk (below_step (by repeat (first | (with_reducible first | exact HB.out | apply below_alloc | apply pw_below_drewN | apply below_drew1) | exact HB.out)) hb);have n1_:=Aside0.mk (hbox);have n2_:=Aside0.mk ((by rw[hg];exact (below_size (by repeat (first | (with_reducible first | exact HB.out | apply below_alloc | apply pw_below_drewN | apply below_drew1) | exact HB.out))):w.heap.size≤gb101));have n3_:=Aside0.mk ((by rw[hg];exact (below_size (by repeat (first | (with_reducible first | exact HB.out | apply below_alloc | apply pw_below_drewN | apply below_drew1) | exact HB.out))):w.heap.size≤gb101));clear HB;have HB:=n0_;have BK101:=n1_;have GW101:=n2_;have GE101:=n3_;clear n0_ n1_ n2_ n3_;clear hb hbox hg;have hcz15_0:w14.cell? ⟨gb101,0,none⟩=some (.bool false):=(blk_cell BK101.out 0).trans rfl;have hcz15_1:w14.cell? ⟨gb101,1,none⟩=some (.int .i64 a0_1):=(blk_cell BK101.out 1).trans rfl;have hcz15_2:w14.cell? ⟨gb101,2,none⟩=some (.int .u64 a0_2):=(blk_cell BK101.out 2).trans rfl;have hcz15_3:w14.cell? ⟨gb101,3,none⟩=some (.int .u64 a0_3):=(blk_cell BK101.out 3).trans rfl;have hcz15_4:w14.cell? ⟨gb101,4,none⟩=some (.slice A0_4 l0_4.length c0_4):=(blk_cell BK101.out 4).trans rfl;have hfz15_0:=blk_frozen BK101.out 0;have hfz15_1:=blk_frozen BK101.out 1;have hfz15_2:=blk_frozen BK101.out 2;have hfz15_3:=blk_frozen BK101.out 3;have hfz15_4:=blk_frozen BK101.out 4))
    go_ret
    exact ⟨by first | rfl | (simp[errW_none,errW_some] <;> rfl) | (simp[*,errW_none,errW_some] <;> rfl),by repeat (first | (with_reducible first | exact HB.out | apply below_alloc | apply pw_below_drewN | apply below_drew1 | refine below_set ?_ GE101.out) | exact HB.out)⟩
   rw[if_neg c13] at H
   have c13b0:(a0_3 == 0)=false:=beq_eq_false_iff_ne.mpr c13
   have c13b1:(a0_3 != 0)=true:=bne_iff_ne.mpr c13
   obtain rfl:=Option.some.inj H
   go_enter Try.func45,Try.ntmps45
   go_wp2_with (first | ((with_reducible refine gate_dst (N:=1) rfl ?_);(try (refine gate_guard (by rfl) ?_;dsimp only));refine box_event ?hg (N:=1) ?hd (cs:=#[.bool false,.int .i64 a0_1,.int .u64 a0_2,.int .u64 a0_3,.slice A0_4 l0_4.length c0_4]) (t:=25) ?hr ?_;(case hd=>rfl);(case hg=>rfl);(case hr=>first | (go_simp;done) | (go_simp;rfl) | (go_simp;simp only[IntKind.wrap_u32,Int.emod_add_emod,Int.add_emod_emod]));intro gb101 hg w16 hbox hb;have n0_:=Aside0.mk (below_step (by repeat (first | (with_reducible first | exact HB.out | apply below_alloc | apply pw_below_drewN | apply below_drew1) | exact HB.out)) hb);have n1_:=Aside0.mk (hbox);have n2_:=Aside0.mk ((by rw[hg];exact (below_size (by repeat (first | (with_reducible first | exact HB.out | apply below_alloc | apply pw_below_drewN | apply below_drew1) | exact HB.out))):w.heap.size≤gb101));have n3_:=Aside0.mk ((by rw[hg];exact (below_size (by repeat (first | (with_reducible first | exact HB.out | apply below_alloc | apply pw_below_drewN | apply below_drew1) | exact HB.out))):w.heap.size≤gb101));clear HB;have HB:=n0_;have BK101:=n1_;have GW101:=n2_;have GE101:=n3_;clear n0_ n1_ n2_ n3_;clear hb hbox hg;have hcz17_0:w16.cell? ⟨gb101,0,none⟩=some (.bool false):=(blk_cell BK101.out 0).trans rfl;have hcz17_1:w16.cell? ⟨gb101,1,none⟩=some (.int .i64 a0_1):=(blk_cell BK101.out 1).trans rfl;have hcz17_2:w16.cell? ⟨gb101,2,none⟩=some (.int .u64 a0_2):=(blk_cell BK101.out 2).trans rfl;have hcz17_3:w16.cell? ⟨gb101,3,none⟩=some (.int .u64 a0_3):=(blk_cell BK101.out 3).trans rfl;have hcz17_4:w16.cell? ⟨gb101,4,none⟩=some (.slice A0_4 l0_4.length c0_4):=(blk_cell BK101.out 4).trans rfl;have hfz17_0:=blk_frozen BK101.out 0;have hfz17_1:=blk_frozen BK101.out 1;have hfz17_2:=blk_frozen BK101.out 2;have hfz17_3:=blk_frozen BK101.out 3;have hfz17_4:=blk_frozen BK101.out 4))
   go_ret
   exact ⟨by first | rfl | (simp[errW_none,errW_some] <;> rfl) | (simp[*,errW_none,errW_some] <;> rfl),by repeat (first | (with_reducible first | exact HB.out | apply below_alloc | apply pw_below_drewN | apply below_drew1 | refine below_set ?_ GE101.out) | exact HB.out)⟩
  rw[if_neg c12] at H
  have c12b0:(a0_2 == 0)=false:=beq_eq_false_iff_ne.mpr c12
  have c12b1:(a0_2 != 0)=true:=bne_iff_ne.mpr c12
  obtain rfl:=Option.some.inj H
  go_enter Try.func45,Try.ntmps45
  go_wp2_with (first | ((with_reducible refine gate_dst (N:=1) rfl ?_);(try (refine gate_guard (by rfl) ?_;dsimp only));refine box_event ?hg (N:=1) ?hd (cs:=#[.bool false,.int .i64 a0_1,.int .u64 a0_2,.int .u64 a0_3,.slice A0_4 l0_4.length c0_4]) (t:=25) ?hr ?_;(case hd=>rfl);(case hg=>rfl);(case hr=>first | (go_simp;done) | (go_simp;rfl) | (go_simp;simp only[IntKind.wrap_u32,Int.emod_add_emod,Int.add_emod_emod]));intro gb101 hg w18 hbox hb;have n0_:=Aside0.mk (below_step (by repeat (first | (with_reducible first | exact HB.out | apply below_alloc | apply pw_below_drewN | apply below_drew1) | exact HB.out)) hb);have n1_:=Aside0.mk (hbox);have n2_:=Aside0.mk ((by rw[hg];exact (below_size (by repeat (first | (with_reducible first | exact HB.out | apply below_alloc | apply pw_below_drewN | apply below_drew1) | exact HB.out))):w.heap.size≤gb101));have n3_:=Aside0.mk ((by rw[hg];exact (below_size (by repeat (first | (with_reducible first | exact HB.out | apply below_alloc | apply pw_below_drewN | apply below_drew1) | exact HB.out))):w.heap.size≤gb101));clear HB;have HB:=n0_;have BK101:=n1_;have GW101:=n2_;have GE101:=n3_;clear n0_ n1_ n2_ n3_;clear hb hbox hg;have hcz19_0:w18.cell? ⟨gb101,0,none⟩=some (.bool false):=(blk_cell BK101.out 0).trans rfl;have hcz19_1:w18.cell? ⟨gb101,1,none⟩=some (.int .i64 a0_1):=(blk_cell BK101.out 1).trans rfl;have hcz19_2:w18.cell? ⟨gb101,2,none⟩=some (.int .u64 a0_2):=(blk_cell BK101.out 2).trans rfl;have hcz19_3:w18.cell? ⟨gb101,3,none⟩=some (.int .u64 a0_3):=(blk_cell BK101.out 3).trans rfl;have hcz19_4:w18.cell? ⟨gb101,4,none⟩=some (.slice A0_4 l0_4.length c0_4):=(blk_cell BK101.out 4).trans rfl;have hfz19_0:=blk_frozen BK101.out 0;have hfz19_1:=blk_frozen BK101.out 1;have hfz19_2:=blk_frozen BK101.out 2;have hfz19_3:=blk_frozen BK101.out 3;have hfz19_4:=blk_frozen BK101.out 4))
  go_ret
  exact ⟨by first | rfl | (simp[errW_none,errW_some] <;> rfl) | (simp[*,errW_none,errW_some] <;> rfl),by repeat (first | (with_reducible first | exact HB.out | apply below_alloc | apply pw_below_drewN | apply below_drew1 | refine below_set ?_ GE101.out) | exact HB.out)⟩
 rw[if_neg c11] at H
 have c11b0:(a0_1 == 0)=false:=beq_eq_false_iff_ne.mpr c11
 have c11b1:(a0_1 != 0)=true:=bne_iff_ne.mpr c11
 obtain rfl:=Option.some.inj H
 go_enter Try.func45,Try.ntmps45
 go_wp2_with (first | ((with_reducible refine gate_dst (N:=1) rfl ?_);(try (refine gate_guard (by rfl) ?_;dsimp only));refine box_event ?hg (N:=1) ?hd (cs:=#[.bool false,.int .i64 a0_1,.int .u64 a0_2,.int .u64 a0_3,.slice A0_4 l0_4.length c0_4]) (t:=25) ?hr ?_;(case hd=>rfl);(case hg=>rfl);(case hr=>first | (go_simp;done) | (go_simp;rfl) | (go_simp;simp only[IntKind.wrap_u32,Int.emod_add_emod,Int.add_emod_emod]));intro gb101 hg w20 hbox hb;have n0_:=Aside0.mk (below_step (by repeat (first | (with_reducible first | exact HB.out | apply below_alloc | apply pw_below_drewN | apply below_drew1) | exact HB.out)) hb);have n1_:=Aside0.mk (hbox);have n2_:=Aside0.mk ((by rw[hg];exact (below_size (by repeat (first | (with_reducible first | exact HB.out | apply below_alloc | apply pw_below_drewN | apply below_drew1) | exact HB.out))):w.heap.size≤gb101));have n3_:=Aside0.mk ((by rw[hg];exact (below_size (by repeat (first | (with_reducible first | exact HB.out | apply below_alloc | apply pw_below_drewN | apply below_drew1) | exact HB.out))):w.heap.size≤gb101));clear HB;have HB:=n0_;have BK101:=n1_;have GW101:=n2_;have GE101:=n3_;clear n0_ n1_ n2_ n3_;clear hb hbox hg;have hcz21_0:w20.cell? ⟨gb101,0,none⟩=some (.bool false):=(blk_cell BK101.out 0).trans rfl;have hcz21_1:w20.cell? ⟨gb101,1,none⟩=some (.int .i64 a0_1):=(blk_cell BK101.out 1).trans rfl;have hcz21_2:w20.cell? ⟨gb101,2,none⟩=some (.int .u64 a0_2):=(blk_cell BK101.out 2).trans rfl;have hcz21_3:w20.cell? ⟨gb101,3,none⟩=some (.int .u64 a0_3):=(blk_cell BK101.out 3).trans rfl;have hcz21_4:w20.cell? ⟨gb101,4,none⟩=some (.slice A0_4 l0_4.length c0_4):=(blk_cell BK101.out 4).trans rfl;have hfz21_0:=blk_frozen BK101.out 0;have hfz21_1:=blk_frozen BK101.out 1;have hfz21_2:=blk_frozen BK101.out 2;have hfz21_3:=blk_frozen BK101.out 3;have hfz21_4:=blk_frozen BK101.out 4))
 go_ret
 exact ⟨by first | rfl | (simp[errW_none,errW_some] <;> rfl) | (simp[*,errW_none,errW_some] <;> rfl),by repeat (first | (with_reducible first | exact HB.out | apply below_alloc | apply pw_below_drewN | apply below_drew1 | refine below_set ?_ GE101.out) | exact HB.out)⟩
def octet_Big.l0:Nat→Int→Int→List Int→Int→Int→Option (List Int)
 |0,_,_,_,_,_=>none
 |k+1,x0,x1,x5,x12,x13=>if x13<x12 then (if 0≤(wrap64 (8*x13)) then (if 0≤(wrap64 ((wrap64 (x1 - 1)) - x13)) then (if (wrap64 ((wrap64 (x1 - 1)) - x13))<(x5.length:Int) then (octet_Big.l0 k x0 x1 (x5.set ((wrap64 ((wrap64 (x1 - 1)) - x13)):Int).toNat ((shr .u64 x0 (wrap64 (8*x13))) % 256)) x12 (wrap64 (x13+1))) else (none)) else (none)) else (none)) else (some x5)
def octet_Big.f (k:Nat) (a0:Int) (a1:Int):Option (List Int):=if 0≤(mx 0 (mn 8 a1)) then (if (mx 0 (mn 8 a1):Int).toNat≤281474976710656 then (octet_Big.l0 k a0 (mx 0 (mn 8 a1)) (List.replicate (mx 0 (mn 8 a1):Int).toNat 0) (mx 0 (mn 8 a1)) 0) else (none)) else (none)
set_option maxHeartbeats 8000000 in
set_option maxRecDepth 100000 in
theorem octet_Big.calls (k:Nat) (a0:Int) (a1:Int) (r:List Int) (w:World) (h:octet_Big.f k a0 a1=some r) :
  Calls Try.prog 40 #[.int .u64 a0,.int .i64 a1] w fun e w'=>∃ v0_:Value,e=.returned (v0_)∧Kd.R (Kd.int .u8) 5 w' w.heap.size (fun _=>True) v0_ r∧Below w.heap.size w w':=by
 have HB:=Aside0.mk (Below.refl w.heap.size w)
 have H:(if 0≤(mx 0 (mn 8 a1)) then (if (mx 0 (mn 8 a1):Int).toNat≤281474976710656 then (octet_Big.l0 k a0 (mx 0 (mn 8 a1)) (List.replicate (mx 0 (mn 8 a1):Int).toNat 0) (mx 0 (mn 8 a1)) 0) else (none)) else (none))=some r:=h
 clear h
 obtain ⟨ji3,hji3⟩:∃ j_:Int,(mn 8 a1)=j_:=⟨_,rfl⟩
 replace H:(if 0≤(mx 0 (ji3)) then (if (mx 0 (ji3):Int).toNat≤281474976710656 then (octet_Big.l0 k a0 (mx 0 (ji3)) (List.replicate (mx 0 (ji3):Int).toNat 0) (mx 0 (ji3)) 0) else (none)) else (none))=some r:=by first | (rw[hji3] at H;exact H) | (simp only[hji3] at H ⊢;exact H)
 (try (have hji3h:ji3≤8:=by (rw[← hji3];unfold mn;(repeat' split) <;> omega)))
 (try (have hji3g:ji3≤64:=by omega))
 have hji3_:(if a1<8 then a1 else 8)=ji3:=hji3
 obtain ⟨ji4,hji4⟩:∃ j_:Int,(mx 0 (ji3))=j_:=⟨_,rfl⟩
 replace H:(if 0≤(ji4) then (if (ji4:Int).toNat≤281474976710656 then (octet_Big.l0 k a0 ji4 (List.replicate (ji4:Int).toNat 0) ji4 0) else (none)) else (none))=some r:=by first | (rw[hji4] at H;exact H) | (simp only[hji4] at H ⊢;exact H)
 have hji4_:(if 0<(ji3) then (ji3) else 0)=ji4:=hji4
 by_cases c5:0≤(ji4)
 ·rw[if_pos c5] at H
  have c5b0:=eq_true c5
  have c5b1:decide (0≤(ji4))=true:=decide_eq_true c5
  clear c5
  by_cases c6:(ji4:Int).toNat≤281474976710656
  ·rw[if_pos c6] at H
   have c6b0:=eq_true c6
   have c6b1:decide ((ji4:Int).toNat≤281474976710656)=true:=decide_eq_true c6
   clear c6
   obtain ⟨y102,hy102⟩:∃ y_:List Int,y_=(List.replicate (ji4:Int).toNat 0):=⟨_,rfl⟩
   replace H:(octet_Big.l0 k a0 ji4 y102 ji4 0)=some r:=by first | (rw[hy102];with_reducible exact H) | (have H2_:=(Option.bind_some _ _).symm.trans H;rw[hy102];with_reducible exact H2_) | (have H2_:=(Option.bind_some _ _).symm.trans H;with_reducible exact H2_) | with_reducible exact H | (rw[hy102];exact H) | exact H
   have Ny102:=Aside0.mk hy102
   clear hy102
   have H':=Aside0.mk H
   clear H
   go_enter Try.func40,Try.ntmps40
   go_wp2_with (first | ((with_reducible refine gate_dst (N:=11) rfl ?_);refine Kd.R_make (Kd.int .u8) _ 5 rfl (N:=11) rfl 23 _ _ rfl ji4 rfl rfl Try.underlying23 (.int .u8 0) 1 info5 rfl (by decide) (by omega) 0 (ok:=fun _=>True) (okp:=fun _=>True) rfl (fun _ hk=>hk) trivial (of_decide_eq_true (by first | (with_reducible assumption) | assumption)) (Nat.le_trans (Nat.mul_le_mul_right _ (of_decide_eq_true (by first | (with_reducible assumption) | assumption):ji4.toNat≤281474976710656)) (by omega)) (Below.refl _ _) (Nat.le_refl _) ?_;intro v103 w7 ho8 hb hg_ hnew_;clear hg_ hnew_;(first | rw[← Ny102.out] at ho8 | (simp only[Int.reduceToNat] at ho8;rw[← Ny102.out] at ho8));have n0_:=Aside0.mk (Kd.R_lower ho8 (below_size (by repeat (first | (with_reducible first | exact HB.out | apply below_alloc | apply pw_below_drewN | apply below_drew1) | exact HB.out))));have n1_:=Aside0.mk (below_step (by repeat (first | (with_reducible first | exact HB.out | apply below_alloc | apply pw_below_drewN | apply below_drew1) | exact HB.out)) hb);clear HB;have HO104:=n0_;have HB:=n1_;clear n0_ n1_;clear hb ho8))
   go_loopg [13] k (fun kq v13 w'=>∃ (x5_1:List Int) (x13_1:Int),v13=.int .i64 x13_1∧Aside0 (octet_Big.l0 kq a0 ji4 x5_1 ji4 x13_1=some r)∧Aside0 (kq≤k)∧Aside0 (Kd.R (Kd.int .u8) 5 w' w.heap.size (fun _=>True) v103 x5_1)∧Aside0 (Below w.heap.size w w'))
   case atStart=>exact ⟨(y102),(0),(by first | rfl | (simp;done) | (simp[*];done)),H',⟨Nat.le_refl _⟩,⟨by (with_reducible repeat (first | apply Kd.R_alloc | apply Kd.R_drewN | apply Kd.R_drew));exact HO104.out⟩,⟨by repeat (first | (with_reducible first | exact HB.out | apply below_alloc | apply pw_below_drewN | apply below_drew1) | exact HB.out)⟩⟩
   case round=>
    clear H'
    try clear p2
    try clear c4
    try clear c5
    try clear c5b0
    try clear c5b1
    try clear c6
    try clear c6b0
    try clear c6b1
    obtain ⟨x5_1,x13_1,rfl,HA,HK1,HO_5,HB⟩:=hrel
    cases gk with
    |zero=>exact absurd HA.out (by simp[octet_Big.l0])
    |succ k1=>
     have H:=HA.out
     clear HA
     simp only[octet_Big.l0] at H
     by_cases c9:x13_1<ji4
     ·rw[if_pos c9] at H
      have c9b0:decide (x13_1<ji4)=true:=decide_eq_true c9
      clear c9
      obtain ⟨ji10,hji10⟩:∃ j_:Int,(wrap64 (8*x13_1))=j_:=⟨_,rfl⟩
      replace H:(if 0≤(ji10) then (if 0≤(wrap64 ((wrap64 (ji4 - 1)) - x13_1)) then (if (wrap64 ((wrap64 (ji4 - 1)) - x13_1))<(x5_1.length:Int) then (octet_Big.l0 k1 a0 ji4 (x5_1.set ((wrap64 ((wrap64 (ji4 - 1)) - x13_1)):Int).toNat ((shr .u64 a0 (ji10)) % 256)) ji4 (wrap64 (x13_1+1))) else (none)) else (none)) else (none))=some r:=by first | (rw[hji10] at H;exact H) | (simp only[hji10] at H ⊢;exact H)
      have hji10w:(IntKind.i64.wrap (8*x13_1))=ji10:=(i64_w _).trans hji10
      by_cases c11:0≤(ji10)
      ·rw[if_pos c11] at H
       have c11b0:=eq_true c11
       have c11b1:decide (0≤(ji10))=true:=decide_eq_true c11
       clear c11
       obtain ⟨ji12,hji12⟩:∃ j_:Int,(shr .u64 a0 (ji10))=j_:=⟨_,rfl⟩
       replace H:(if 0≤(wrap64 ((wrap64 (ji4 - 1)) - x13_1)) then (if (wrap64 ((wrap64 (ji4 - 1)) - x13_1))<(x5_1.length:Int) then (octet_Big.l0 k1 a0 ji4 (x5_1.set ((wrap64 ((wrap64 (ji4 - 1)) - x13_1)):Int).toNat ((ji12) % 256)) ji4 (wrap64 (x13_1+1))) else (none)) else (none))=some r:=by first | (rw[hji12] at H;exact H) | (simp only[hji12] at H ⊢;exact H)
       have hji12_:(a0 / 2 ^ min (ji10).toNat 64)=ji12:=hji12
       have hji12z:(ji10)≤64→(a0 / 2 ^ (ji10).toNat)=ji12:=shr_small hji12
       obtain ⟨ji13,hji13⟩:∃ j_:Int,(wrap64 ((wrap64 (ji4 - 1)) - x13_1))=j_:=⟨_,rfl⟩
       replace H:(if 0≤(ji13) then (if (ji13)<(x5_1.length:Int) then (octet_Big.l0 k1 a0 ji4 (x5_1.set ((ji13):Int).toNat ((ji12) % 256)) ji4 (wrap64 (x13_1+1))) else (none)) else (none))=some r:=by first | (rw[hji13] at H;exact H) | (simp only[hji13] at H ⊢;exact H)
       have hji13w:(IntKind.i64.wrap ((wrap64 (ji4 - 1)) - x13_1))=ji13:=(i64_w _).trans hji13
       have hji13x:wrap64 (ji4 - 1 - x13_1)=ji13:=by (rw[← hji13];unfold wrap64;omega)
       have hji13y:IntKind.i64.wrap (ji4 - 1 - x13_1)=ji13:=(i64_w _).trans hji13x
       by_cases c14:0≤(ji13)
       ·rw[if_pos c14] at H
        have c14b0:decide (0≤(ji13))=true:=decide_eq_true c14
        clear c14
        by_cases c15:(ji13)<(x5_1.length:Int)
        ·rw[if_pos c15] at H
         have c15b0:decide ((ji13)<(x5_1.length:Int))=true:=decide_eq_true c15
         clear c15
         obtain ⟨y105,hy105⟩:∃ y_:List Int,y_=(x5_1.set ((ji13):Int).toNat ((ji12) % 256)):=⟨_,rfl⟩
         replace H:(octet_Big.l0 k1 a0 ji4 y105 ji4 (wrap64 (x13_1+1)))=some r:=by first | (rw[hy105];with_reducible exact H) | (have H2_:=(Option.bind_some _ _).symm.trans H;rw[hy105];with_reducible exact H2_) | (have H2_:=(Option.bind_some _ _).symm.trans H;with_reducible exact H2_) | with_reducible exact H | (rw[hy105];exact H) | exact H
         have Ny105:=Aside0.mk hy105
         clear hy105
         have H':=Aside0.mk H
         clear H
         have p16:0≤((ji13):Int):=of_decide_eq_true (by first | (with_reducible assumption) | assumption)
         have q16:((ji13):Int)<((x5_1.length:Int):Int):=of_decide_eq_true (by first | (with_reducible assumption) | assumption)
         obtain ⟨go16,co16,eo16,gb16,gl16,cl16,HG16⟩:=Kd.R_form HO_5.out (by omega)
         (first | cases eo16 | (injection eo16 with ea_ en_ ec_;(first | subst ea_ | (injection ea_ with ea_;subst ea_));subst ec_;clear en_))
         have GB16:=Aside0.mk gb16
         have GG16:=Aside0.mk HG16
         clear gb16 gl16 HG16
         obtain ⟨hx16_0,hf16_0⟩:=Kd.R_celln 0 HO_5.out ((ji13):Int) p16 q16
         replace p16:=eq_true p16
         replace q16:=eq_true q16
         have HP17:=Kd.R_putg HO_5.out ((ji13):Int) ((ji12) % 256)
         go_wp2_with (first | ((with_reducible refine gate_store (t:=5) (p:=26) rfl ?_);refine store_event (t:=5) (p:=26) (v:=?vo_w18) (w1:=(wr.setCell ⟨go16,((ji13):Int).toNat,none⟩ (.int .u8 ((ji12) % 256)))) ?hg ?ho ?hn ?hr ?_;(case ho=>rfl);(case hg=>rfl);(case hn=>rfl);(case hr=>first | (go_simp;done) | (go_simp;rfl) | (go_simp;simp only[IntKind.wrap_u32,Int.emod_add_emod,Int.add_emod_emod]));intro w18 hw;have hg:wr.grownBy w18 (some go16):=(by rw[hw];exact HP17.2);have hp_:Kd.R (Kd.int .u8) 5 w18 w.heap.size (fun _=>True) (.slice (some ⟨go16,0,none⟩) x5_1.length co16) y105:=(by rw[hw,Ny105.out];exact HP17.1);clear HP17;have n0_:=Aside0.mk (hp_);have n1_:=Aside0.mk ((by rw[hw];exact below_set (HB.out) GB16.out:Below w.heap.size w w18));clear HO_5;clear HB;have HO_5:=n0_;have HB:=n1_;clear n0_ n1_;clear hg hw hp_))
         go_roundg k1
         case measure=>have:=HK1.out;omega
         case rel=>exact ⟨(y105),(wrap64 (x13_1+1)),(by first | rfl | (simp;done) | (simp[*];done)),H',⟨by have:=HK1.out;omega⟩,⟨by (with_reducible repeat (first | apply Kd.R_alloc | apply Kd.R_drewN | apply Kd.R_drew));exact HO_5.out⟩,⟨by repeat (first | (with_reducible first | exact HB.out | apply below_alloc | apply pw_below_drewN | apply below_drew1) | exact HB.out)⟩⟩
        rw[if_neg c15] at H
        exact absurd H (by simp)
       rw[if_neg c14] at H
       exact absurd H (by simp)
      rw[if_neg c11] at H
      exact absurd H (by simp)
     rw[if_neg c9] at H
     have c9b0:decide (x13_1<ji4)=false:=decide_eq_false c9
     clear c9
     obtain rfl:=Option.some.inj H
     go_wp2
     go_ret
     exact ⟨_,by first | rfl | (simp[errW_none,errW_some] <;> rfl) | (simp only[← hji3,← hji4];first | rfl | (simp[errW_none,errW_some] <;> rfl)) | (simp[*,errW_none,errW_some] <;> rfl),by (with_reducible repeat (first | apply Kd.R_alloc | apply Kd.R_drewN | apply Kd.R_drew));exact HO_5.out,by repeat (first | (with_reducible first | exact HB.out | apply below_alloc | apply pw_below_drewN | apply below_drew1) | exact HB.out)⟩
  rw[if_neg c6] at H
  exact absurd H (by simp)
 rw[if_neg c5] at H
 exact absurd H (by simp)
def octet_Fill.l0:Nat→Int→List Int→Int→Int→Option (List Int)
 |0,_,_,_,_=>none
 |k+1,x0,x5,x12,x13=>if x13<x12 then (if 0≤x13 then (if x13<(x5.length:Int) then (octet_Fill.l0 k x0 (x5.set (x13:Int).toNat x0) x12 (wrap64 (x13+1))) else (none)) else (none)) else (some x5)
def octet_Fill.f (k:Nat) (a0:Int) (a1:Int):Option (List Int):=if 0≤(mx 0 (mn 65536 a1)) then (if (mx 0 (mn 65536 a1):Int).toNat≤281474976710656 then ((some (List.replicate (mx 0 (mn 65536 a1):Int).toNat 0:List Int)).bind fun y106=>(octet_Fill.l0 k a0 y106 (y106.length:Int) 0)) else (none)) else (none)
set_option maxHeartbeats 8000000 in
set_option maxRecDepth 100000 in
theorem octet_Fill.calls (k:Nat) (a0:Int) (a1:Int) (r:List Int) (w:World) (h:octet_Fill.f k a0 a1=some r) :
  Calls Try.prog 41 #[.int .u8 a0,.int .i64 a1] w fun e w'=>∃ v0_:Value,e=.returned (v0_)∧Kd.R (Kd.int .u8) 5 w' w.heap.size (fun _=>True) v0_ r∧Below w.heap.size w w':=by
 have HB:=Aside0.mk (Below.refl w.heap.size w)
 have H:(if 0≤(mx 0 (mn 65536 a1)) then (if (mx 0 (mn 65536 a1):Int).toNat≤281474976710656 then ((some (List.replicate (mx 0 (mn 65536 a1):Int).toNat 0:List Int)).bind fun y106=>(octet_Fill.l0 k a0 y106 (y106.length:Int) 0)) else (none)) else (none))=some r:=h
 clear h
 obtain ⟨ji3,hji3⟩:∃ j_:Int,(mn 65536 a1)=j_:=⟨_,rfl⟩
 replace H:(if 0≤(mx 0 (ji3)) then (if (mx 0 (ji3):Int).toNat≤281474976710656 then ((some (List.replicate (mx 0 (ji3):Int).toNat 0:List Int)).bind fun y106=>(octet_Fill.l0 k a0 y106 (y106.length:Int) 0)) else (none)) else (none))=some r:=by first | (rw[hji3] at H;exact H) | (simp only[hji3] at H ⊢;exact H)
 (try (have hji3h:ji3≤65536:=by (rw[← hji3];unfold mn;(repeat' split) <;> omega)))
 (try (have hji3g:ji3≤64:=by omega))
 have hji3_:(if a1<65536 then a1 else 65536)=ji3:=hji3
 obtain ⟨ji4,hji4⟩:∃ j_:Int,(mx 0 (ji3))=j_:=⟨_,rfl⟩
 replace H:(if 0≤(ji4) then (if (ji4:Int).toNat≤281474976710656 then ((some (List.replicate (ji4:Int).toNat 0:List Int)).bind fun y106=>(octet_Fill.l0 k a0 y106 (y106.length:Int) 0)) else (none)) else (none))=some r:=by first | (rw[hji4] at H;exact H) | (simp only[hji4] at H ⊢;exact H)
 have hji4_:(if 0<(ji3) then (ji3) else 0)=ji4:=hji4
 by_cases c5:0≤(ji4)
 ·rw[if_pos c5] at H
  have c5b0:=eq_true c5
  have c5b1:decide (0≤(ji4))=true:=decide_eq_true c5
  clear c5
  by_cases c6:(ji4:Int).toNat≤281474976710656
  ·rw[if_pos c6] at H
   have c6b0:=eq_true c6
   have c6b1:decide ((ji4:Int).toNat≤281474976710656)=true:=decide_eq_true c6
   clear c6
   obtain ⟨y106,hy106⟩:∃ y_:List Int,y_=(List.replicate (ji4:Int).toNat 0):=⟨_,rfl⟩
   replace H:(octet_Fill.l0 k a0 y106 (y106.length:Int) 0)=some r:=by first | (rw[hy106];with_reducible exact H) | (have H2_:=(Option.bind_some _ _).symm.trans H;rw[hy106];with_reducible exact H2_) | (have H2_:=(Option.bind_some _ _).symm.trans H;with_reducible exact H2_) | with_reducible exact H | (rw[hy106];exact H) | exact H
   have Ny106:=Aside0.mk hy106
   clear hy106
   have H':=Aside0.mk H
   clear H
   go_enter Try.func41,Try.ntmps41
   go_wp2_with (first | ((with_reducible refine gate_dst (N:=10) rfl ?_);refine Kd.R_make (Kd.int .u8) _ 5 rfl (N:=10) rfl 23 _ _ rfl ji4 rfl rfl Try.underlying23 (.int .u8 0) 1 info5 rfl (by decide) (by omega) 0 (ok:=fun _=>True) (okp:=fun _=>True) rfl (fun _ hk=>hk) trivial (of_decide_eq_true (by first | (with_reducible assumption) | assumption)) (Nat.le_trans (Nat.mul_le_mul_right _ (of_decide_eq_true (by first | (with_reducible assumption) | assumption):ji4.toNat≤281474976710656)) (by omega)) (Below.refl _ _) (Nat.le_refl _) ?_;intro v107 w7 ho8 hb hg_ hnew_;clear hg_ hnew_;(first | rw[← Ny106.out] at ho8 | (simp only[Int.reduceToNat] at ho8;rw[← Ny106.out] at ho8));have n0_:=Aside0.mk (Kd.R_lower ho8 (below_size (by repeat (first | (with_reducible first | exact HB.out | apply below_alloc | apply pw_below_drewN | apply below_drew1) | exact HB.out))));have n1_:=Aside0.mk (below_step (by repeat (first | (with_reducible first | exact HB.out | apply below_alloc | apply pw_below_drewN | apply below_drew1) | exact HB.out)) hb);clear HB;have HO108:=n0_;have HB:=n1_;clear n0_ n1_;clear hb ho8;obtain ⟨Ao9,co9,eo9⟩:=Kd.R_slice HO108.out;subst eo9))
   go_loopg [13] k (fun kq v13 w'=>∃ (x5_1:List Int) (x13_1:Int),v13=.int .i64 x13_1∧Aside0 (octet_Fill.l0 kq a0 x5_1 (y106.length:Int) x13_1=some r)∧Aside0 (kq≤k)∧Aside0 (Kd.R (Kd.int .u8) 5 w' w.heap.size (fun _=>True) (.slice Ao9 y106.length co9) x5_1)∧Aside0 (Below w.heap.size w w'))
   case atStart=>exact ⟨(y106),(0),(by first | rfl | (simp;done) | (simp[*];done)),H',⟨Nat.le_refl _⟩,⟨by (with_reducible repeat (first | apply Kd.R_alloc | apply Kd.R_drewN | apply Kd.R_drew));exact HO108.out⟩,⟨by repeat (first | (with_reducible first | exact HB.out | apply below_alloc | apply pw_below_drewN | apply below_drew1) | exact HB.out)⟩⟩
   case round=>
    clear H'
    try clear p2
    try clear c4
    try clear c5
    try clear c5b0
    try clear c5b1
    try clear c6
    try clear c6b0
    try clear c6b1
    obtain ⟨x5_1,x13_1,rfl,HA,HK1,HO_5,HB⟩:=hrel
    have hl5_1:=(Kd.R_reads' HO_5.out).1
    rw[hl5_1] at HO_5
    (try simp only[hl5_1])
    cases gk with
    |zero=>exact absurd HA.out (by simp[octet_Fill.l0])
    |succ k1=>
     have H:=HA.out
     clear HA
     simp only[octet_Fill.l0] at H
     by_cases c10:x13_1<(y106.length:Int)
     ·rw[if_pos c10] at H
      have c10b0:decide (x13_1<(y106.length:Int))=true:=decide_eq_true c10
      clear c10
      by_cases c11:0≤x13_1
      ·rw[if_pos c11] at H
       have c11b0:decide (0≤x13_1)=true:=decide_eq_true c11
       clear c11
       by_cases c12:x13_1<(x5_1.length:Int)
       ·rw[if_pos c12] at H
        have c12b0:decide (x13_1<(x5_1.length:Int))=true:=decide_eq_true c12
        clear c12
        obtain ⟨y109,hy109⟩:∃ y_:List Int,y_=(x5_1.set (x13_1:Int).toNat a0):=⟨_,rfl⟩
        replace H:(octet_Fill.l0 k1 a0 y109 (y106.length:Int) (wrap64 (x13_1+1)))=some r:=by first | (rw[hy109];with_reducible exact H) | (have H2_:=(Option.bind_some _ _).symm.trans H;rw[hy109];with_reducible exact H2_) | (have H2_:=(Option.bind_some _ _).symm.trans H;with_reducible exact H2_) | with_reducible exact H | (rw[hy109];exact H) | exact H
        have Ny109:=Aside0.mk hy109
        clear hy109
        have H':=Aside0.mk H
        clear H
        have p13:0≤(x13_1:Int):=of_decide_eq_true (by first | (with_reducible assumption) | assumption)
        have q13:(x13_1:Int)<((x5_1.length:Int):Int):=of_decide_eq_true (by first | (with_reducible assumption) | assumption)
        obtain ⟨go13,co13,eo13,gb13,gl13,cl13,HG13⟩:=Kd.R_form HO_5.out (by omega)
        (first | cases eo13 | (injection eo13 with ea_ en_ ec_;(first | subst ea_ | (injection ea_ with ea_;subst ea_));subst ec_;clear en_))
        have GB13:=Aside0.mk gb13
        have GG13:=Aside0.mk HG13
        clear gb13 gl13 HG13
        obtain ⟨hx13_0,hf13_0⟩:=Kd.R_celln 0 HO_5.out (x13_1:Int) p13 q13
        replace p13:=eq_true p13
        replace q13:=eq_true q13
        have HP14:=Kd.R_putg HO_5.out (x13_1:Int) a0
        go_wp2_with (first | ((with_reducible refine gate_store (t:=5) (p:=19) rfl ?_);refine store_event (t:=5) (p:=19) (v:=?vo_w15) (w1:=(wr.setCell ⟨go13,(x13_1:Int).toNat,none⟩ (.int .u8 a0))) ?hg ?ho ?hn ?hr ?_;(case ho=>rfl);(case hg=>rfl);(case hn=>rfl);(case hr=>first | (go_simp;done) | (go_simp;rfl) | (go_simp;simp only[IntKind.wrap_u32,Int.emod_add_emod,Int.add_emod_emod]));intro w15 hw;have hg:wr.grownBy w15 (some go13):=(by rw[hw];exact HP14.2);have hp_:Kd.R (Kd.int .u8) 5 w15 w.heap.size (fun _=>True) (.slice (some ⟨go13,0,none⟩) x5_1.length co9) y109:=(by rw[hw,Ny109.out];exact HP14.1);clear HP14;have n0_:=Aside0.mk (hp_);have n1_:=Aside0.mk ((by rw[hw];exact below_set (HB.out) GB13.out:Below w.heap.size w w15));clear HO_5;clear HB;have HO_5:=n0_;have HB:=n1_;clear n0_ n1_;clear hg hw hp_))
        (try simp only[← hl5_1])
        go_roundg k1
        case measure=>have:=HK1.out;omega
        case rel=>exact ⟨(y109),(wrap64 (x13_1+1)),(by first | rfl | (simp;done) | (simp[*];done)),H',⟨by have:=HK1.out;omega⟩,⟨by (try simp only[hl5_1]);(with_reducible repeat (first | apply Kd.R_alloc | apply Kd.R_drewN | apply Kd.R_drew));exact HO_5.out⟩,⟨by repeat (first | (with_reducible first | exact HB.out | apply below_alloc | apply pw_below_drewN | apply below_drew1) | exact HB.out)⟩⟩
       rw[if_neg c12] at H
       exact absurd H (by simp)
      rw[if_neg c11] at H
      exact absurd H (by simp)
     rw[if_neg c10] at H
     have c10b0:decide (x13_1<(y106.length:Int))=false:=decide_eq_false c10
     (try (have c10zhl5_1:=c10b0;rw[hl5_1] at c10zhl5_1))
     clear c10
     obtain rfl:=Option.some.inj H
     go_wp2
     go_ret
     exact ⟨_,by first | rfl | (simp[errW_none,errW_some] <;> rfl) | (simp only[← hji3,← hji4];first | rfl | (simp[errW_none,errW_some] <;> rfl)) | (simp[*,errW_none,errW_some] <;> rfl),by (with_reducible repeat (first | apply Kd.R_alloc | apply Kd.R_drewN | apply Kd.R_drew));exact HO_5.out,by repeat (first | (with_reducible first | exact HB.out | apply below_alloc | apply pw_below_drewN | apply below_drew1) | exact HB.out)⟩
  rw[if_neg c6] at H
  exact absurd H (by simp)
 rw[if_neg c5] at H
 exact absurd H (by simp)
def bits_RotateLeft32.f (a0:Int) (a1:Int):Option (Int):=if 0≤(Go.bits .and .u64 (IntKind.u64.wrap (a1)) 31) then (if 0≤(IntKind.u64.wrap (32 - (Go.bits .and .u64 (IntKind.u64.wrap (a1)) 31))) then (some (Go.bits .or .u32 (shl .u32 a0 (Go.bits .and .u64 (IntKind.u64.wrap (a1)) 31)) (shr .u32 a0 (IntKind.u64.wrap (32 - (Go.bits .and .u64 (IntKind.u64.wrap (a1)) 31)))))) else (none)) else (none)
set_option maxHeartbeats 8000000 in
set_option maxRecDepth 100000 in
theorem bits_RotateLeft32.calls (a0:Int) (a1:Int) (r:Int) (w:World) (h:bits_RotateLeft32.f a0 a1=some r) :
  Calls Try.prog 107 #[.int .u32 a0,.int .i64 a1] w fun e w'=>e=.returned (.int .u32 r)∧Drawn0 w w':=by
 have H:(if 0≤(Go.bits .and .u64 (IntKind.u64.wrap (a1)) 31) then (if 0≤(IntKind.u64.wrap (32 - (Go.bits .and .u64 (IntKind.u64.wrap (a1)) 31))) then (some (Go.bits .or .u32 (shl .u32 a0 (Go.bits .and .u64 (IntKind.u64.wrap (a1)) 31)) (shr .u32 a0 (IntKind.u64.wrap (32 - (Go.bits .and .u64 (IntKind.u64.wrap (a1)) 31)))))) else (none)) else (none))=some r:=h
 clear h
 obtain ⟨ji3,hji3⟩:∃ j_:Int,(Go.bits .and .u64 (IntKind.u64.wrap (a1)) 31)=j_:=⟨_,rfl⟩
 replace H:(if 0≤(ji3) then (if 0≤(IntKind.u64.wrap (32 - (ji3))) then (some (Go.bits .or .u32 (shl .u32 a0 (ji3)) (shr .u32 a0 (IntKind.u64.wrap (32 - (ji3)))))) else (none)) else (none))=some r:=by first | (rw[hji3] at H;exact H) | (simp only[hji3] at H ⊢;exact H)
 by_cases c4:0≤(ji3)
 ·rw[if_pos c4] at H
  have c4b0:=eq_true c4
  have c4b1:decide (0≤(ji3))=true:=decide_eq_true c4
  clear c4
  obtain ⟨ji5,hji5⟩:∃ j_:Int,(shl .u32 a0 (ji3))=j_:=⟨_,rfl⟩
  replace H:(if 0≤(IntKind.u64.wrap (32 - (ji3))) then (some (Go.bits .or .u32 (ji5) (shr .u32 a0 (IntKind.u64.wrap (32 - (ji3)))))) else (none))=some r:=by first | (rw[hji5] at H;exact H) | (simp only[hji5] at H ⊢;exact H)
  have hji5_:(IntKind.u32.wrap (a0*2 ^ min (ji3).toNat 32))=ji5:=hji5
  have hji5z:(ji3)≤32→(IntKind.u32.wrap (a0*2 ^ (ji3).toNat))=ji5:=shl_small hji5
  obtain ⟨ji6,hji6⟩:∃ j_:Int,(IntKind.u64.wrap (32 - (ji3)))=j_:=⟨_,rfl⟩
  replace H:(if 0≤(ji6) then (some (Go.bits .or .u32 (ji5) (shr .u32 a0 (ji6)))) else (none))=some r:=by first | (rw[hji6] at H;exact H) | (simp only[hji6] at H ⊢;exact H)
  by_cases c7:0≤(ji6)
  ·rw[if_pos c7] at H
   have c7b0:=eq_true c7
   have c7b1:decide (0≤(ji6))=true:=decide_eq_true c7
   clear c7
   obtain ⟨ji8,hji8⟩:∃ j_:Int,(shr .u32 a0 (ji6))=j_:=⟨_,rfl⟩
   replace H:(some (Go.bits .or .u32 (ji5) (ji8)))=some r:=by first | (rw[hji8] at H;exact H) | (simp only[hji8] at H ⊢;exact H)
   have hji8_:(a0 / 2 ^ min (ji6).toNat 32)=ji8:=hji8
   have hji8z:(ji6)≤32→(a0 / 2 ^ (ji6).toNat)=ji8:=shr_small hji8
   obtain rfl:=Option.some.inj H
   go_enter Try.func107,Try.ntmps107
   go_wp2
   go_ret
   exact ⟨by first | rfl | (simp;done) | (simp only[← hji3,← hji5,← hji6,← hji8] <;> (first | rfl | simp)) | (simp[*];done),by repeat (first | exact Drawn0.refl _ | apply Drawn0.step)⟩
  rw[if_neg c7] at H
  exact absurd H (by simp)
 rw[if_neg c4] at H
 exact absurd H (by simp)
def sha_tail.l0:Nat→Int→List Int→Option (List Int)
 |0,_,_=>none
 |k+1,x0,x3=>if (Int.tmod (wrap64 (x0+(x3.length:Int))) 64)=56 then ((octet_Big.f k (IntKind.u64.wrap ((IntKind.u64.wrap (x0))*8)) 8).bind fun t127=>(if x3.length+t127.length<140737488355328 then (some (x3++t127)) else (none))) else (if x3.length<140737488355328 then (sha_tail.l0 k x0 (x3 ++ [0])) else (none))
def sha_tail.f (k:Nat) (a0:Int):Option (List Int):=sha_tail.l0 k a0 (([128]:List Int))
set_option maxHeartbeats 8000000 in
set_option maxRecDepth 100000 in
theorem sha_tail.calls (k:Nat) (a0:Int) (r:List Int) (w:World) (h:sha_tail.f k a0=some r) :
  Calls Try.prog 99 #[.int .i64 a0] w fun e w'=>∃ v0_:Value,e=.returned (v0_)∧Kd.R (Kd.int .u8) 5 w' w.heap.size (fun _=>True) v0_ r∧Below w.heap.size w w':=by
 have HB:=Aside0.mk (Below.refl w.heap.size w)
 have H:(sha_tail.l0 k a0 (([128]:List Int)))=some r:=h
 clear h
 obtain ⟨y124,hy124⟩:∃ y_:List Int,y_=(([128]:List Int)):=⟨_,rfl⟩
 replace H:(sha_tail.l0 k a0 y124)=some r:=by first | (rw[hy124];with_reducible exact H) | (have H2_:=(Option.bind_some _ _).symm.trans H;rw[hy124];with_reducible exact H2_) | (have H2_:=(Option.bind_some _ _).symm.trans H;with_reducible exact H2_) | with_reducible exact H | (rw[hy124];exact H) | exact H
 have Ny124:=Aside0.mk hy124
 clear hy124
 have H':=Aside0.mk H
 clear H
 go_enter Try.func99,Try.ntmps99
 go_wp2_with (first | ((with_reducible refine gate_dst (N:=4) rfl ?_);refine Kd.R_lit (Kd.int .u8) _ 5 ?hg (N:=4) ?hd (xs:=([128]:List Int)) (inner:=[.int .u8 128]) (ok:=fun _=>True) (okp:=fun _=>True) ?hr ?hp (fun _ hk=>hk) trivial (Below.refl _ _) (Nat.le_refl _) (by simp) ?_;(case hd=>rfl);(case hg=>rfl);(case hr=>first | (go_simp;done) | (go_simp;rfl) | (go_simp;simp only[IntKind.wrap_u32,Int.emod_add_emod,Int.add_emod_emod]));(case hp=>exact (Reps.one (show Kd.M (Kd.int .u8) _ _ _ 128 [.int .u8 128] from rfl) (Reps.none _ _)));intro v125 w2 ho3 hb hg_ hnew_;clear hg_ hnew_;(first | rw[← Ny124.out] at ho3 | (simp only[Int.reduceToNat] at ho3;rw[← Ny124.out] at ho3));have n0_:=Aside0.mk (Kd.R_lower ho3 (below_size (by repeat (first | (with_reducible first | exact HB.out | apply below_alloc | apply pw_below_drewN | apply below_drew1) | exact HB.out))));have n1_:=Aside0.mk (below_step (by repeat (first | (with_reducible first | exact HB.out | apply below_alloc | apply pw_below_drewN | apply below_drew1) | exact HB.out)) hb);clear HB;have HO126:=n0_;have HB:=n1_;clear n0_ n1_;clear hb ho3))
 go_loopg [3] k (fun kq v3 w'=>∃ (x3_1:List Int),Aside0 (sha_tail.l0 kq a0 x3_1=some r)∧Aside0 (kq≤k)∧Aside0 (Kd.R (Kd.int .u8) 5 w' w.heap.size (fun _=>True) v3 x3_1)∧Aside0 (Below w.heap.size w w'))
 case atStart=>exact ⟨(y124),H',⟨Nat.le_refl _⟩,⟨by (with_reducible repeat (first | apply Kd.R_alloc | apply Kd.R_drewN | apply Kd.R_drew));exact HO126.out⟩,⟨by repeat (first | (with_reducible first | exact HB.out | apply below_alloc | apply pw_below_drewN | apply below_drew1) | exact HB.out)⟩⟩
 case round=>
  clear H'
  try clear p2
  obtain ⟨x3_1,HA,HK1,HO_3,HB⟩:=hrel
  cases gk with
  |zero=>exact absurd HA.out (by simp[sha_tail.l0])
  |succ k1=>
   have H:=HA.out
   clear HA
   simp only[sha_tail.l0] at H
   by_cases c4:(Int.tmod (wrap64 (a0+(x3_1.length:Int))) 64)=56
   ·rw[if_pos c4] at H
    have c4b0:((Int.tmod (wrap64 (a0+(x3_1.length:Int))) 64) == 56)=true:=beq_iff_eq.mpr c4
    have c4b1:((Int.tmod (wrap64 (a0+(x3_1.length:Int))) 64) != 56)=false:=bne_eq_false_iff_eq.mpr c4
    clear c4
    replace H:=Option.bind_eq_some_iff.mp H
    obtain ⟨t127,A50,H⟩:=H
    replace H:(if x3_1.length+t127.length<140737488355328 then (some (x3_1++t127)) else (none))=some r:=H
    have A5:=Aside0.mk A50
    clear A50
    by_cases c6:x3_1.length+t127.length<140737488355328
    ·rw[if_pos c6] at H
     have LMc6:=Aside0.mk c6
     clear c6
     obtain ⟨y130,hy130⟩:∃ y_:List Int,y_=(x3_1++t127):=⟨_,rfl⟩
     replace H:(some y130)=some r:=by first | (rw[hy130];with_reducible exact H) | (have H2_:=(Option.bind_some _ _).symm.trans H;rw[hy130];with_reducible exact H2_) | (have H2_:=(Option.bind_some _ _).symm.trans H;with_reducible exact H2_) | with_reducible exact H | (rw[hy130];exact H) | exact H
     have Ny130:=Aside0.mk hy130
     clear hy130
     obtain rfl:=Option.some.inj H
     obtain ⟨Ao7,co7,eo7⟩:=Kd.R_slice HO_3.out
     subst eo7
     go_wp2_with (first | ((with_reducible refine gate_callee (f:=40) rfl ?_);refine goesL_ (some 18) rfl rfl Try.func40 (by kernel_rfl) rfl #[.int .u64 (IntKind.u64.wrap ((IntKind.u64.wrap (a0))*8)),.int .i64 8] rfl (by (try simp only[List.map_toArray,List.map_cons,List.map_nil]);first | done | rfl | (simp only[List.length_drop,List.length_take];rfl)) ?_;(with_reducible refine (octet_Big.calls k1 (IntKind.u64.wrap ((IntKind.u64.wrap (a0))*8)) 8 t127 _ A5.out).mono ?_);rintro e w8 ⟨v128,rfl,ho0,hb⟩;refine ⟨_,rfl,?_⟩;have n0_:=Aside0.mk (Kd.R_elder' (by (with_reducible repeat (first | apply Kd.R_alloc | apply Kd.R_drewN | apply Kd.R_drew));exact HO_3.out) (Kd.R_base ho0) hb);have n1_:=Aside0.mk (Kd.R_lower (Kd.R_new' ho0 (Kd.R_lt (by (with_reducible repeat (first | apply Kd.R_alloc | apply Kd.R_drewN | apply Kd.R_drew));exact HO_3.out))) (below_size (by repeat (first | (with_reducible first | exact HB.out | apply below_alloc | apply pw_below_drewN | apply below_drew1) | exact HB.out))));have n2_:=Aside0.mk (below_step (by repeat (first | (with_reducible first | exact HB.out | apply below_alloc | apply pw_below_drewN | apply below_drew1) | exact HB.out)) hb);clear HO_3;clear HB;have HO_3:=n0_;have HO129:=n1_;have HB:=n2_;clear n0_ n1_ n2_;(try clear hb);(try clear hb2);(try clear hk);(try clear hi);(try clear ho0);obtain ⟨Ao10,co10,eo10⟩:=Kd.R_slice HO129.out;subst eo10) | ((with_reducible refine gate_builtin (b:=.append) (xs:=#[.tmp 14,.tmp 18]) rfl ?_);at_builtin;refine Kd.R_append_rows (Kd.int .u8) (w0:=w) w.heap.size rfl (.tmp 14) (.tmp 18) 23 5 (.int .u8 0) 1 rfl Try.underlying23 info5 rfl (by decide) (by omega) (.slice Ao7 x3_1.length co7) x3_1 t127 _ _ _ (fun k_=>some k_≠(.slice Ao10 t127.length co10:Value).ownBlock) (fun _=>False) rfl rfl ?aO ?aR (fun _ _ h=>h) (fun _ h=>h.elim) ?aF ?aB ?aS ?aL ?_;(case aR=>repeat (first | exact (Kd.R_reads' HO129.out).2.2 | (with_reducible refine Kd.C_alloc ?_ _) | (with_reducible refine Kd.C_drewN ?_ _) | (with_reducible refine Kd.C_drew ?_)));(case aB=>exact (by repeat (first | (with_reducible first | exact HB.out | apply below_alloc | apply pw_below_drewN | apply below_drew1) | exact HB.out)));(case aF=>exact (fun k_ hk=>Kd.fresh' (Kd.R_lt (by (with_reducible repeat (first | apply Kd.R_alloc | apply Kd.R_drewN | apply Kd.R_drew));exact HO129.out)) k_ hk));(case aO=>exact (by (with_reducible repeat (first | apply Kd.R_alloc | apply Kd.R_drewN | apply Kd.R_drew));exact Kd.R_mono HO_3.out (fun _ hk=>by first | exact hk.2 | trivial)));(case aS=>exact (below_size (by repeat (first | (with_reducible first | exact HB.out | apply below_alloc | apply pw_below_drewN | apply below_drew1) | exact HB.out))));(case aL=>have:=LMc6.out;omega);intro v131 w9 ho hb hg hat;rw[← Ny130.out] at ho;have n0_:=Aside0.mk (Kd.R_after (ok:=(fun _=>True)) (by (with_reducible repeat (first | apply Kd.R_alloc | apply Kd.R_drewN | apply Kd.R_drew));exact HO129.out) hg hat);have n1_:=Aside0.mk (hb);have n2_:=Aside0.mk (ho);clear HO129;clear HB;clear HO_3;have HO129:=n0_;have HB:=n1_;have HO132:=n2_;clear n0_ n1_ n2_;clear ho hb hg hat))
     go_ret
     exact ⟨_,by first | rfl | (simp[errW_none,errW_some] <;> rfl) | (simp[*,errW_none,errW_some] <;> rfl),by (with_reducible repeat (first | apply Kd.R_alloc | apply Kd.R_drewN | apply Kd.R_drew));exact Kd.R_mono HO132.out (fun _ hk=>trivial),by repeat (first | (with_reducible first | exact HB.out | apply below_alloc | apply pw_below_drewN | apply below_drew1) | exact HB.out)⟩
    rw[if_neg c6] at H
    exact absurd H (by simp)
   rw[if_neg c4] at H
   have c4b0:((Int.tmod (wrap64 (a0+(x3_1.length:Int))) 64) == 56)=false:=beq_eq_false_iff_ne.mpr c4
   have c4b1:((Int.tmod (wrap64 (a0+(x3_1.length:Int))) 64) != 56)=true:=bne_iff_ne.mpr c4
   by_cases c11:x3_1.length<140737488355328
   ·rw[if_pos c11] at H
    have LMc11:=Aside0.mk c11
    clear c11
    obtain ⟨y133,hy133⟩:∃ y_:List Int,y_=(x3_1 ++ [0]):=⟨_,rfl⟩
    replace H:(sha_tail.l0 k1 a0 y133)=some r:=by first | (rw[hy133];with_reducible exact H) | (have H2_:=(Option.bind_some _ _).symm.trans H;rw[hy133];with_reducible exact H2_) | (have H2_:=(Option.bind_some _ _).symm.trans H;with_reducible exact H2_) | with_reducible exact H | (rw[hy133];exact H) | exact H
    have Ny133:=Aside0.mk hy133
    clear hy133
    have H':=Aside0.mk H
    clear H
    obtain ⟨Ao12,co12,eo12⟩:=Kd.R_slice HO_3.out
    subst eo12
    go_wp2_with (first | ((with_reducible refine gate_builtin (b:=.append) (xs:=#[.tmp 11,.tmp 12]) rfl ?_);at_builtin;refine Kd.R_append (Kd.int .u8) (w0:=w) w.heap.size rfl (.tmp 11) (.tmp 12) 23 5 (.int .u8 0) 1 rfl Try.underlying23 info5 rfl (by decide) (by omega) (.slice Ao12 x3_1.length co12) x3_1 0 [.int .u8 0] (fun _=>True) (fun _=>False) rfl rfl ?aP (fun _ hk=>hk.elim) ?aF ?aO ?aB ?aS ?aL ?_;(case aP=>exact rfl);(case aB=>exact (by repeat (first | (with_reducible first | exact HB.out | apply below_alloc | apply pw_below_drewN | apply below_drew1) | exact HB.out)));(case aF=>exact (fun _ _=>trivial));(case aO=>exact (by (with_reducible repeat (first | apply Kd.R_alloc | apply Kd.R_drewN | apply Kd.R_drew));exact HO_3.out));(case aS=>exact (below_size (by repeat (first | (with_reducible first | exact HB.out | apply below_alloc | apply pw_below_drewN | apply below_drew1) | exact HB.out))));(case aL=>have:=LMc11.out;omega);intro v134 w13 ho hb hg hat;rw[← Ny133.out] at ho;have n0_:=Aside0.mk (hb);have n1_:=Aside0.mk (ho);clear HB;clear HO_3;have HB:=n0_;have HO135:=n1_;clear n0_ n1_;clear ho hb hg hat))
    go_roundg k1
    case measure=>have:=HK1.out;omega
    case rel=>exact ⟨(y133),H',⟨by have:=HK1.out;omega⟩,⟨by (with_reducible repeat (first | apply Kd.R_alloc | apply Kd.R_drewN | apply Kd.R_drew));exact HO135.out⟩,⟨by repeat (first | (with_reducible first | exact HB.out | apply below_alloc | apply pw_below_drewN | apply below_drew1) | exact HB.out)⟩⟩
   rw[if_neg c11] at H
   exact absurd H (by simp)
def octet_Xor.l0:Nat→List Int→List Int→List Int→Int→Int→Option (List Int × Int)
 |0,_,_,_,_,_=>none
 |k+1,x0,x1,x6,x17,x18=>if x18<x17 then (if 0≤x18 then (if x18<(x0.length:Int) then (if x18<(x1.length:Int) then (if x18<(x6.length:Int) then (octet_Xor.l0 k x0 x1 (x6.set (x18:Int).toNat (Go.bits .xor .u8 (rd x0 x18) (rd x1 x18))) x17 (wrap64 (x18+1))) else (none)) else (none)) else (none)) else (none)) else (some (x6,0))
def octet_Xor.f (k:Nat) (l0:List Int) (l1:List Int):Option (List Int × Int):=if (l0.length:Int)=(l1.length:Int) then (if 0≤(l0.length:Int) then (if ((l0.length:Int):Int).toNat≤281474976710656 then (octet_Xor.l0 k l0 l1 (List.replicate ((l0.length:Int):Int).toNat 0) (l0.length:Int) 0) else (none)) else (none)) else (some (([]:List Int),2))
def octet_Xor.T7:Bool × List (List Nat × List Nat):=(true,[([],[]),([],[]),([],[]),([],[]),([2,3],[2,3]),([4],[4]),([],[]),([],[]),([6,7],[6,7]),([8],[8]),([5,9],[5,9]),([0,1,0,1,2,3,4,5,6,7,8,9,10],[0,1]),([11,10,0,1,2,3,4,5,6,7,8,9,10],[10,11])])
def octet_Xor.B7:List Nat:=[0,0,0,0,12,28,0,0,192,448,1020,2047,4095]
theorem octet_Xor.tab7:rtab .any (opsOf Try.f98 7)=octet_Xor.T7:=by kernel_rfl
theorem octet_Xor.bits7:waitsOk octet_Xor.T7.2 octet_Xor.B7=true:=by kernel_rfl
set_option maxHeartbeats 8000000 in
set_option maxRecDepth 100000 in
theorem octet_Xor.calls (k:Nat) (A0:Option Addr) (c0:Nat) (l0:List Int) (A1:Option Addr) (c1:Nat) (l1:List Int) (r1:List Int) (r2:Int) (w:World) (hr0:Kd.C (Kd.int .u8) w A0 l0.length l0) (hc0:l0.length≤c0) (hr1:Kd.C (Kd.int .u8) w A1 l1.length l1) (hc1:l1.length≤c1) (h:octet_Xor.f k l0 l1=some (r1,r2)) :
  Calls Try.prog 98 #[.slice A0 l0.length c0,.slice A1 l1.length c1] w fun e w'=>∃ v0_:Value,e=.returned (.tuple #[v0_,.int .i64 r2])∧Kd.R (Kd.int .u8) 5 w' w.heap.size (fun _=>True) v0_ r1∧Below w.heap.size w w':=by
 have HR0:=Aside0.mk hr0
 have HC0:=Aside0.mk hc0
 clear hr0 hc0
 have HR1:=Aside0.mk hr1
 have HC1:=Aside0.mk hc1
 clear hr1 hc1
 have HB:=Aside0.mk (Below.refl w.heap.size w)
 have H:(if (l0.length:Int)=(l1.length:Int) then (if 0≤(l0.length:Int) then (if ((l0.length:Int):Int).toNat≤281474976710656 then (octet_Xor.l0 k l0 l1 (List.replicate ((l0.length:Int):Int).toNat 0) (l0.length:Int) 0) else (none)) else (none)) else (some (([]:List Int),2)))=some (r1,r2):=h
 clear h
 by_cases c3:(l0.length:Int)=(l1.length:Int)
 ·rw[if_pos c3] at H
  have c3b0:((l0.length:Int) == (l1.length:Int))=true:=beq_iff_eq.mpr c3
  have c3b1:((l0.length:Int) != (l1.length:Int))=false:=bne_eq_false_iff_eq.mpr c3
  have c3b2:(l0.length == l1.length)=true:=by first | simpa using c3 | (simp at c3 ⊢;omega)
  clear c3
  by_cases c4:0≤(l0.length:Int)
  ·rw[if_pos c4] at H
   have c4b0:=eq_true c4
   have c4b1:decide (0≤(l0.length:Int))=true:=decide_eq_true c4
   clear c4
   by_cases c5:((l0.length:Int):Int).toNat≤281474976710656
   ·rw[if_pos c5] at H
    have c5b0:=eq_true c5
    have c5b1:decide (((l0.length:Int):Int).toNat≤281474976710656)=true:=decide_eq_true c5
    clear c5
    obtain ⟨y136,hy136⟩:∃ y_:List Int,y_=(List.replicate ((l0.length:Int):Int).toNat 0):=⟨_,rfl⟩
    replace H:(octet_Xor.l0 k l0 l1 y136 (l0.length:Int) 0)=some (r1,r2):=by first | (rw[hy136];with_reducible exact H) | (have H2_:=(Option.bind_some _ _).symm.trans H;rw[hy136];with_reducible exact H2_) | (have H2_:=(Option.bind_some _ _).symm.trans H;with_reducible exact H2_) | with_reducible exact H | (rw[hy136];exact H) | exact H
    have Ny136:=Aside0.mk hy136
    clear hy136
    have H':=Aside0.mk H
    clear H
    go_enter Try.func98,Try.ntmps98
    go_wp2_with (first | ((with_reducible refine gate_dst (N:=15) rfl ?_);refine Kd.R_make (Kd.int .u8) _ 5 rfl (N:=15) rfl 23 _ _ rfl (l0.length:Int) rfl rfl Try.underlying23 (.int .u8 0) 1 info5 rfl (by decide) (by omega) 0 (ok:=fun _=>True) (okp:=fun _=>True) rfl (fun _ hk=>hk) trivial (of_decide_eq_true (by first | (with_reducible assumption) | assumption)) (Nat.le_trans (Nat.mul_le_mul_right _ (of_decide_eq_true (by first | (with_reducible assumption) | assumption):(l0.length:Int).toNat≤281474976710656)) (by omega)) (Below.refl _ _) (Nat.le_refl _) ?_;intro v137 w6 ho7 hb hg_ hnew_;clear hg_ hnew_;(first | rw[← Ny136.out] at ho7 | (simp only[Int.reduceToNat] at ho7;rw[← Ny136.out] at ho7));have n0_:=Aside0.mk (Kd.R_lower ho7 (below_size (by repeat (first | (with_reducible first | exact HB.out | apply below_alloc | apply pw_below_drewN | apply below_drew1) | exact HB.out))));have n1_:=Aside0.mk (below_step (by repeat (first | (with_reducible first | exact HB.out | apply below_alloc | apply pw_below_drewN | apply below_drew1) | exact HB.out)) hb);clear HB;have HO138:=n0_;have HB:=n1_;clear n0_ n1_;clear hb ho7))
    go_loopg [18] k (fun kq v18 w'=>∃ (x6_1:List Int) (x18_1:Int),v18=.int .i64 x18_1∧Aside0 (octet_Xor.l0 kq l0 l1 x6_1 (l0.length:Int) x18_1=some (r1,r2))∧Aside0 (kq≤k)∧Aside0 (Kd.R (Kd.int .u8) 5 w' w.heap.size (fun _=>True) v137 x6_1)∧Aside0 (Below w.heap.size w w'))
    case atStart=>exact ⟨(y136),(0),(by first | rfl | (simp;done) | (simp[*];done)),H',⟨Nat.le_refl _⟩,⟨by (with_reducible repeat (first | apply Kd.R_alloc | apply Kd.R_drewN | apply Kd.R_drew));exact HO138.out⟩,⟨by repeat (first | (with_reducible first | exact HB.out | apply below_alloc | apply pw_below_drewN | apply below_drew1) | exact HB.out)⟩⟩
    case round=>
     clear H'
     try clear c1
     try clear p2
     try clear c3
     try clear c3b0
     try clear c3b1
     try clear c3b2
     try clear c4
     try clear c4b0
     try clear c4b1
     try clear c5
     try clear c5b0
     try clear c5b1
     obtain ⟨x6_1,x18_1,rfl,HA,HK1,HO_6,HB⟩:=hrel
     cases gk with
     |zero=>exact absurd HA.out (by simp[octet_Xor.l0])
     |succ k1=>
      have H:=HA.out
      clear HA
      simp only[octet_Xor.l0] at H
      by_cases c8:x18_1<(l0.length:Int)
      ·rw[if_pos c8] at H
       have c8b0:decide (x18_1<(l0.length:Int))=true:=decide_eq_true c8
       clear c8
       by_cases c9:0≤x18_1
       ·rw[if_pos c9] at H
        have c9b0:decide (0≤x18_1)=true:=decide_eq_true c9
        clear c9
        by_cases c10:x18_1<(l0.length:Int)
        ·rw[if_pos c10] at H
         have c10b0:decide (x18_1<(l0.length:Int))=true:=decide_eq_true c10
         clear c10
         by_cases c11:x18_1<(l1.length:Int)
         ·rw[if_pos c11] at H
          have c11b0:decide (x18_1<(l1.length:Int))=true:=decide_eq_true c11
          clear c11
          by_cases c12:x18_1<(x6_1.length:Int)
          ·rw[if_pos c12] at H
           have c12b0:decide (x18_1<(x6_1.length:Int))=true:=decide_eq_true c12
           clear c12
           obtain ⟨y141,hy141⟩:∃ y_:List Int,y_=(x6_1.set (x18_1:Int).toNat (Go.bits .xor .u8 (rd l0 x18_1) (rd l1 x18_1))):=⟨_,rfl⟩
           replace H:(octet_Xor.l0 k1 l0 l1 y141 (l0.length:Int) (wrap64 (x18_1+1)))=some (r1,r2):=by first | (rw[hy141];with_reducible exact H) | (have H2_:=(Option.bind_some _ _).symm.trans H;rw[hy141];with_reducible exact H2_) | (have H2_:=(Option.bind_some _ _).symm.trans H;with_reducible exact H2_) | with_reducible exact H | (rw[hy141];exact H) | exact H
           have Ny141:=Aside0.mk hy141
           clear hy141
           have H':=Aside0.mk H
           clear H
           try go_wp2
           have n0_:=Aside0.mk (Kd.R_drew HO_6.out)
           have n1_:=Aside0.mk (below_drew1 HB.out)
           clear HO_6
           clear HB
           have HO_6:=n0_
           have HB:=n1_
           clear n0_ n1_
           have p139:0≤(x18_1:Int):=of_decide_eq_true (by first | (with_reducible assumption) | assumption)
           have q139:x18_1<(l0.length:Int):=of_decide_eq_true (by first | (with_reducible assumption) | assumption)
           obtain ⟨ad139,e139,hx139_0⟩:=Kd.at_int HR0.out x18_1 p139 q139
           have hw139_0:=hx139_0
           cases e139
           replace hx139_0:=(HB.out.cell (World.block_lt_of_cell? w _ hx139_0)).trans hx139_0
           replace p139:=eq_true p139
           replace q139:=eq_true q139
           have p140:0≤(x18_1:Int):=of_decide_eq_true (by first | (with_reducible assumption) | assumption)
           have q140:x18_1<(l1.length:Int):=of_decide_eq_true (by first | (with_reducible assumption) | assumption)
           obtain ⟨ad140,e140,hx140_0⟩:=Kd.at_int HR1.out x18_1 p140 q140
           have hw140_0:=hx140_0
           cases e140
           replace hx140_0:=(HB.out.cell (World.block_lt_of_cell? w _ hx140_0)).trans hx140_0
           replace p140:=eq_true p140
           replace q140:=eq_true q140
           have p13:0≤(x18_1:Int):=of_decide_eq_true (by first | (with_reducible assumption) | assumption)
           have q13:(x18_1:Int)<((x6_1.length:Int):Int):=of_decide_eq_true (by first | (with_reducible assumption) | assumption)
           obtain ⟨go13,co13,eo13,gb13,gl13,cl13,HG13⟩:=Kd.R_form HO_6.out (by omega)
           (first | cases eo13 | (injection eo13 with ea_ en_ ec_;(first | subst ea_ | (injection ea_ with ea_;subst ea_));subst ec_;clear en_))
           have GB13:=Aside0.mk gb13
           have GG13:=Aside0.mk HG13
           clear gb13 gl13 HG13
           obtain ⟨hx13_0,hf13_0⟩:=Kd.R_celln 0 HO_6.out (x18_1:Int) p13 q13
           replace p13:=eq_true p13
           replace q13:=eq_true q13
           have HP15:=Kd.R_putn HO_6.out (x18_1:Int) (Go.bits .xor .u8 (rd l0 x18_1) (rd l1 x18_1))
           rw[← Ny141.out] at HP15
           have HQ15:=Aside0.mk HP15
           clear HP15
           refine start_ (n:=13) (S:=fun w'=>w'.cell? (ad139.add (x18_1).toNat)=some (.int .u8 (rd l0 x18_1))∧w'.cell? (ad140.add (x18_1).toNat)=some (.int .u8 (rd l1 x18_1))) (ds:=[12]) #[false,false,false,false,false,false,false,false,false,false,false,false,false] (by kernel_rfl) rfl rfl ⟨((HB.out.cell (World.block_lt_of_cell? w _ hw139_0)).trans hw139_0),((HB.out.cell (World.block_lt_of_cell? w _ hw140_0)).trans hw140_0)⟩ (fun hHeld=>?_);refine with_tabW octet_Xor.tab7 octet_Xor.bits7 (fun HT_ HW_=>?_)
           generalize wr.drew=w14 at HO_6 HB GG13 HQ15 hf13_0 hx139_0 hx13_0 hx140_0 hHeld ⊢
           refine pure_ (i:=0) (N:=some 21) (v:=?_) (a':=?_) #[true,false,false,false,false,false,false,false,false,false,false,false,false] rfl rfl (any_of HT_.out (by kernel_rfl)) (fun _ _ _ h=>h) (Or.inl ⟨by rfl,?_⟩) ?_ ?_
           rotate_left
           ·intro w';go_simp;with_reducible rfl
           rotate_left
           ·simp only[Act.put,sZ0,sZ1,sZ2,i64_w,i32_w];rfl
           refine pure_ (i:=1) (N:=some 22) (v:=?_) (a':=?_) #[true,true,false,false,false,false,false,false,false,false,false,false,false] rfl rfl (any_of HT_.out (by kernel_rfl)) (fun _ _ _ h=>h) (Or.inl ⟨by rfl,?_⟩) ?_ ?_
           rotate_left
           ·intro w';go_simp;with_reducible rfl
           rotate_left
           ·simp only[Act.put,sZ0,sZ1,sZ2,i64_w,i32_w];rfl
           refine pure_ (i:=2) (N:=some 23) (v:=?_) (a':=?_) #[true,true,true,false,false,false,false,false,false,false,false,false,false] rfl rfl (any_of HT_.out (by kernel_rfl)) (fun _ _ _ h=>h) (Or.inl ⟨by rfl,?_⟩) ?_ ?_
           rotate_left
           ·intro w';go_simp;with_reducible rfl
           rotate_left
           ·simp only[Act.put,sZ0,sZ1,sZ2,i64_w,i32_w];rfl
           refine pure_ (i:=3) (N:=some 24) (v:=?_) (a':=?_) #[true,true,true,true,false,false,false,false,false,false,false,false,false] rfl rfl (any_of HT_.out (by kernel_rfl)) (fun _ _ _ h=>h) (Or.inl ⟨by rfl,?_⟩) ?_ ?_
           rotate_left
           ·intro w';go_simp;with_reducible rfl
           rotate_left
           ·simp only[Act.put,sZ0,sZ1,sZ2,i64_w,i32_w];rfl
           refine pure_ (i:=4) (N:=some 25) (v:=?_) (a':=?_) #[true,true,true,true,true,false,false,false,false,false,false,false,false] rfl rfl (any_of HT_.out (by kernel_rfl)) (fun _ _ _ h=>h) (Or.inl ⟨by rfl,?_⟩) ?_ ?_
           rotate_left
           ·intro w';go_simp;with_reducible rfl
           rotate_left
           ·simp only[Act.put,sZ0,sZ1,sZ2,i64_w,i32_w];rfl
           refine pure_ (i:=6) (N:=some 27) (v:=?_) (a':=?_) #[true,true,true,true,true,false,true,false,false,false,false,false,false] rfl rfl (any_of HT_.out (by kernel_rfl)) (fun _ _ _ h=>h) (Or.inl ⟨by rfl,?_⟩) ?_ ?_
           rotate_left
           ·intro w';go_simp;with_reducible rfl
           rotate_left
           ·simp only[Act.put,sZ0,sZ1,sZ2,i64_w,i32_w];rfl
           refine pure_ (i:=7) (N:=some 28) (v:=?_) (a':=?_) #[true,true,true,true,true,false,true,true,false,false,false,false,false] rfl rfl (any_of HT_.out (by kernel_rfl)) (fun _ _ _ h=>h) (Or.inl ⟨by rfl,?_⟩) ?_ ?_
           rotate_left
           ·intro w';go_simp;with_reducible rfl
           rotate_left
           ·simp only[Act.put,sZ0,sZ1,sZ2,i64_w,i32_w];rfl
           refine pure_ (i:=8) (N:=some 29) (v:=?_) (a':=?_) #[true,true,true,true,true,false,true,true,true,false,false,false,false] rfl rfl (any_of HT_.out (by kernel_rfl)) (fun _ _ _ h=>h) (Or.inl ⟨by rfl,?_⟩) ?_ ?_
           rotate_left
           ·intro w';go_simp;with_reducible rfl
           rotate_left
           ·simp only[Act.put,sZ0,sZ1,sZ2,i64_w,i32_w];rfl
           refine take_ (i:=5) (N:=some 26) (v:=?_) (a':=?_) #[true,true,true,true,true,true,true,true,true,false,false,false,false] rfl rfl (take_ofW HT_.out HW_.out (by kernel_rfl)) (fun _ _ _ h=>h) (Or.inl ⟨by rfl,?_⟩) hHeld ?_ ?_
           rotate_left
           ·rintro w' ⟨s0,s1⟩
            go_simp;with_reducible rfl
           rotate_left
           ·simp only[Act.put,sZ0,sZ1,sZ2,i64_w,i32_w];rfl
           refine take_ (i:=9) (N:=some 30) (v:=?_) (a':=?_) #[true,true,true,true,true,true,true,true,true,true,false,false,false] rfl rfl (take_ofW HT_.out HW_.out (by kernel_rfl)) (fun _ _ _ h=>h) (Or.inl ⟨by rfl,?_⟩) hHeld ?_ ?_
           rotate_left
           ·rintro w' ⟨s0,s1⟩
            go_simp;with_reducible rfl
           rotate_left
           ·simp only[Act.put,sZ0,sZ1,sZ2,i64_w,i32_w];rfl
           refine pure_ (i:=10) (N:=some 31) (v:=?_) (a':=?_) #[true,true,true,true,true,true,true,true,true,true,true,false,false] rfl rfl (any_of HT_.out (by kernel_rfl)) (fun _ _ _ h=>h) (Or.inl ⟨by rfl,?_⟩) ?_ ?_
           rotate_left
           ·intro w';go_simp;with_reducible rfl
           rotate_left
           ·simp only[Act.put,sZ0,sZ1,sZ2,i64_w,i32_w];rfl
           refine pure_ (i:=11) (N:=some 32) (v:=?_) (a':=?_) #[true,true,true,true,true,true,true,true,true,true,true,true,false] rfl rfl (any_of HT_.out (by kernel_rfl)) (fun _ _ _ h=>h) (Or.inl ⟨by rfl,?_⟩) ?_ ?_
           rotate_left
           ·intro w';go_simp;with_reducible rfl
           rotate_left
           ·simp only[Act.put,sZ0,sZ1,sZ2,i64_w,i32_w];rfl
           refine last_ (i:=12) (N:=none) #[true,true,true,true,true,true,true,true,true,true,true,true,true] rfl rfl (one_of HT_.out (by kernel_rfl)) (by decide) (fun K hK=>?_)
           refine skip_ (w1:=?_) (by rfl) rfl ?_ ?_
           rotate_left
           ·go_simp;rfl
           refine hK.out _ _ ?_
           clear hK K
           refine done_ (done_of HT_.out (by kernel_rfl)) ?_
           try go_wp2
           go_roundg k1
           case measure=>have:=HK1.out;omega
           case rel=>exact ⟨(y141),(wrap64 (x18_1+1)),(by first | rfl | (simp;done) | (simp[*];done)),H',⟨by have:=HK1.out;omega⟩,⟨by (with_reducible repeat (first | apply Kd.R_alloc | apply Kd.R_drewN | apply Kd.R_drew));exact HQ15.out⟩,⟨by repeat (first | (with_reducible first | exact HB.out | apply below_alloc | apply pw_below_drewN | apply below_drew1 | refine below_set ?_ GB13.out) | exact HB.out)⟩⟩
          rw[if_neg c12] at H
          exact absurd H (by simp)
         rw[if_neg c11] at H
         exact absurd H (by simp)
        rw[if_neg c10] at H
        exact absurd H (by simp)
       rw[if_neg c9] at H
       exact absurd H (by simp)
      rw[if_neg c8] at H
      have c8b0:decide (x18_1<(l0.length:Int))=false:=decide_eq_false c8
      clear c8
      simp only[Option.some.injEq,Prod.mk.injEq] at H
      obtain ⟨rfl,rfl⟩:=H
      go_wp2
      go_ret2
      exact ⟨_,by first | rfl | (simp[errW_none,errW_some] <;> rfl) | (simp[*,errW_none,errW_some] <;> rfl),by (with_reducible repeat (first | apply Kd.R_alloc | apply Kd.R_drewN | apply Kd.R_drew));exact HO_6.out,by repeat (first | (with_reducible first | exact HB.out | apply below_alloc | apply pw_below_drewN | apply below_drew1) | exact HB.out)⟩
   rw[if_neg c5] at H
   exact absurd H (by simp)
  rw[if_neg c4] at H
  exact absurd H (by simp)
 rw[if_neg c3] at H
 have c3b0:((l0.length:Int) == (l1.length:Int))=false:=beq_eq_false_iff_ne.mpr c3
 have c3b1:((l0.length:Int) != (l1.length:Int))=true:=bne_iff_ne.mpr c3
 have c3b2:(l0.length == l1.length)=false:=by first | simpa using c3 | (simp at c3 ⊢;omega)
 simp only[Option.some.injEq,Prod.mk.injEq] at H
 obtain ⟨rfl,rfl⟩:=H
 go_enter Try.func98,Try.ntmps98
 go_wp2
 go_ret2
 exact ⟨_,by first | rfl | (simp[errW_none,errW_some] <;> rfl) | (simp[*,errW_none,errW_some] <;> rfl),by first | exact Kd.R_nil _ _ _ _ _ | exact Kd.N_nil _ _ _ _ _ | exact Kd.V_nil _ _ _ _ _ | exact Kd.Q_nil _ _ _ _ _ | exact Kd.S_nil _ _ _ _ _,by repeat (first | (with_reducible first | exact HB.out | apply below_alloc | apply pw_below_drewN | apply below_drew1) | exact HB.out)⟩
end Go.Proofs.Ytbajioiiaamokaa.QB
