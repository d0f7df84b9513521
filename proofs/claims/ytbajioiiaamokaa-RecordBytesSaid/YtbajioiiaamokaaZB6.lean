/- QBx4, pruned (slim.py). -/
import Derived.Test.YtbajioiiaamokaaZB4
import Derived.Test.YtbajioiiaamokaaZB5
namespace Go.Proofs.Ytbajioiiaamokaa.Own
end Go.Proofs.Ytbajioiiaamokaa.Own
namespace Go.Proofs.Ytbajioiiaamokaa.QB
open Go.RowKit Go.Proofs.Ytbajioiiaamokaa.Own Go.Proofs.YtbajioiiaamokaaW.PrintWords Go.Proofs.YtbajioiiaamokaaW.PrintLast Go.Proofs.YtbajioiiaamokaaW.PrintMore
attribute [local go_sem] max2_int min2_int max_two min_two max_three min_three max_four min_four
set_option linter.unusedVariables false
set_option linter.unusedSimpArgs false
def mac_padded.f (k:Nat) (l0:List Int) (a1:Int):Option (List Int):=(octet_Fill.f k a1 (l0.length:Int)).bind fun t142=>((octet_Xor.f k l0 t142).bind fun bt145=>(some bt145.1))
set_option maxHeartbeats 8000000 in
set_option maxRecDepth 100000 in
theorem mac_padded.calls (k:Nat) (A0:Option Addr) (c0:Nat) (l0:List Int) (a1:Int) (r:List Int) (w:World) (hr0:Kd.C (Kd.int .u8) w A0 l0.length l0) (hc0:l0.length≤c0) (h:mac_padded.f k l0 a1=some r) :
  Calls Try.prog 88 #[.slice A0 l0.length c0,.int .u8 a1] w fun e w'=>∃ v0_:Value,e=.returned (v0_)∧Kd.R (Kd.int .u8) 5 w' w.heap.size (fun _=>True) v0_ r∧Below w.heap.size w w':=by
 have HR0:=Aside0.mk hr0
 have HC0:=Aside0.mk hc0
 clear hr0 hc0
 have HB:=Aside0.mk (Below.refl w.heap.size w)
 have H:((octet_Fill.f k a1 (l0.length:Int)).bind fun t142=>((octet_Xor.f k l0 t142).bind fun bt145=>(some bt145.1)))=some r:=h
 clear h
 replace H:=Option.bind_eq_some_iff.mp H
 obtain ⟨t142,A30,H⟩:=H
 replace H:((octet_Xor.f k l0 t142).bind fun bt145=>(some bt145.1))=some r:=H
 have A3:=Aside0.mk A30
 clear A30
 replace H:=Option.bind_eq_some_iff.mp H
 obtain ⟨⟨t145,t146⟩,A40,H⟩:=H
 replace H:(some t145)=some r:=H
 have A4:=Aside0.mk A40
 clear A40
 obtain rfl:=Option.some.inj H
 go_enter Try.func88,Try.ntmps88
 go_wp2_with (first | ((with_reducible refine gate_callee (f:=41) rfl ?_);refine goesL_ (some 12) rfl rfl Try.func41 (by kernel_rfl) rfl #[.int .u8 a1,.int .i64 (l0.length:Int)] rfl (by (try simp only[List.map_toArray,List.map_cons,List.map_nil]);first | done | rfl | (simp only[List.length_drop,List.length_take];rfl)) ?_;(with_reducible refine (octet_Fill.calls k a1 (l0.length:Int) t142 _ A3.out).mono ?_);rintro e w5 ⟨v143,rfl,ho0,hb⟩;refine ⟨_,rfl,?_⟩;have n0_:=Aside0.mk (Kd.R_lower ho0 (below_size (by repeat (first | (with_reducible first | exact HB.out | apply below_alloc | apply pw_below_drewN | apply below_drew1) | exact HB.out))));have n1_:=Aside0.mk (below_step (by repeat (first | (with_reducible first | exact HB.out | apply below_alloc | apply pw_below_drewN | apply below_drew1) | exact HB.out)) hb);clear HB;have HO144:=n0_;have HB:=n1_;clear n0_ n1_;(try clear hb);(try clear hb2);(try clear hk);(try clear hi);(try clear ho0);obtain ⟨Ao6,co6,eo6⟩:=Kd.R_slice HO144.out;subst eo6) | ((with_reducible refine gate_callee (f:=98) rfl ?_);refine goesL_ (some 13) rfl rfl Try.func98 (by kernel_rfl) rfl #[.slice A0 l0.length c0,.slice Ao6 t142.length co6] rfl (by (try simp only[List.map_toArray,List.map_cons,List.map_nil]);first | done | rfl | (simp only[List.length_drop,List.length_take];rfl)) ?_;(with_reducible refine (octet_Xor.calls k _ _ l0 _ _ t142 t145 t146 _ ?side1 ?side2 ?side3 ?side4 A4.out).mono ?_);(case side1=>repeat (first | exact (Kd.C_below HR0.out HB.out) | (with_reducible refine Kd.C_alloc ?_ _) | (with_reducible refine Kd.C_drewN ?_ _) | (with_reducible refine Kd.C_drew ?_)));(case side2=>exact HC0.out);(case side3=>repeat (first | exact (Kd.R_reads' HO144.out).2.2 | (with_reducible refine Kd.C_alloc ?_ _) | (with_reducible refine Kd.C_drewN ?_ _) | (with_reducible refine Kd.C_drew ?_)));(case side4=>exact (Kd.R_reads' HO144.out).2.1);rintro e w7 ⟨v147,rfl,ho0,hb⟩;refine ⟨_,rfl,?_⟩;have n0_:=Aside0.mk (Kd.R_elder' (by (with_reducible repeat (first | apply Kd.R_alloc | apply Kd.R_drewN | apply Kd.R_drew));exact HO144.out) (Kd.R_base ho0) hb);have n1_:=Aside0.mk (Kd.R_lower (Kd.R_new' ho0 (Kd.R_lt (by (with_reducible repeat (first | apply Kd.R_alloc | apply Kd.R_drewN | apply Kd.R_drew));exact HO144.out))) (below_size (by repeat (first | (with_reducible first | exact HB.out | apply below_alloc | apply pw_below_drewN | apply below_drew1) | exact HB.out))));have n2_:=Aside0.mk (below_step (by repeat (first | (with_reducible first | exact HB.out | apply below_alloc | apply pw_below_drewN | apply below_drew1) | exact HB.out)) hb);clear HO144;clear HB;have HO144:=n0_;have HO148:=n1_;have HB:=n2_;clear n0_ n1_ n2_;(try clear hb);(try clear hb2);(try clear hk);(try clear hi);(try clear ho0)))
 go_ret
 exact ⟨_,by first | rfl | (simp[errW_none,errW_some] <;> rfl) | (simp[*,errW_none,errW_some] <;> rfl),by (with_reducible repeat (first | apply Kd.R_alloc | apply Kd.R_drewN | apply Kd.R_drew));exact Kd.R_mono HO148.out (fun _ hk=>trivial),by repeat (first | (with_reducible first | exact HB.out | apply below_alloc | apply pw_below_drewN | apply below_drew1) | exact HB.out)⟩
def derive_right.f (l0:List Int) (a1:Int):Option (Bool):=if (l0.length:Int)≤64 then (if a1≥1 then (some (decide (a1≤1000))) else (some false)) else (some false)
set_option maxHeartbeats 8000000 in
set_option maxRecDepth 100000 in
theorem derive_right.calls (A0:Option Addr) (c0:Nat) (l0:List Int) (a1:Int) (r:Bool) (w:World) (hr0:Kd.C (Kd.int .u8) w A0 l0.length l0) (hc0:l0.length≤c0) (h:derive_right.f l0 a1=some r) :
  Calls Try.prog 93 #[.slice A0 l0.length c0,.int .i64 a1] w fun e w'=>e=.returned (.bool r)∧Drawn0 w w':=by
 have HR0:=Aside0.mk hr0
 have HC0:=Aside0.mk hc0
 clear hr0 hc0
 have H:(if (l0.length:Int)≤64 then (if a1≥1 then (some (decide (a1≤1000))) else (some false)) else (some false))=some r:=h
 clear h
 by_cases c3:(l0.length:Int)≤64
 ·rw[if_pos c3] at H
  have c3b0:decide ((l0.length:Int)≤64)=true:=decide_eq_true c3
  have c3b1:decide (l0.length≤64)=true:=decide_eq_true (by omega)
  clear c3
  by_cases c4:a1≥1
  ·rw[if_pos c4] at H
   have c4b0:decide (1≤a1)=true:=decide_eq_true c4
   clear c4
   obtain rfl:=Option.some.inj H
   go_enter Try.func93,Try.ntmps93
   go_wp2
   go_ret
   exact ⟨by first | rfl | (simp;done) | (simp[*];done),by repeat (first | exact Drawn0.refl _ | apply Drawn0.step)⟩
  rw[if_neg c4] at H
  have c4b0:decide (1≤a1)=false:=decide_eq_false c4
  clear c4
  obtain rfl:=Option.some.inj H
  go_enter Try.func93,Try.ntmps93
  go_wp2
  go_ret
  exact ⟨by first | rfl | (simp;done) | (simp[*];done),by repeat (first | exact Drawn0.refl _ | apply Drawn0.step)⟩
 rw[if_neg c3] at H
 have c3b0:decide ((l0.length:Int)≤64)=false:=decide_eq_false c3
 have c3b1:decide (l0.length≤64)=false:=decide_eq_false (by omega)
 clear c3
 obtain rfl:=Option.some.inj H
 go_enter Try.func93,Try.ntmps93
 go_wp2
 go_ret
 exact ⟨by first | rfl | (simp;done) | (simp[*];done),by repeat (first | exact Drawn0.refl _ | apply Drawn0.step)⟩
def slot_Copy.f (a0_0:Bool) (a0_1:Int) (a0_2:Int) (a0_3:Int) (l0_4:List Int):Option (Bool × Int × Int × Int × List Int):=(some (([]:List Int):List Int)).bind fun y164=>(if y164.length+l0_4.length<140737488355328 then (some (a0_0,a0_1,a0_2,a0_3,(y164++l0_4))) else (none))
set_option maxHeartbeats 8000000 in
set_option maxRecDepth 100000 in
theorem slot_Copy.calls (a0_0:Bool) (a0_1:Int) (a0_2:Int) (a0_3:Int) (A0_4:Option Addr) (c0_4:Nat) (l0_4:List Int) (r1:Bool) (r2:Int) (r3:Int) (r4:Int) (r5:List Int) (w:World) (hr0_4:Kd.C (Kd.int .u8) w A0_4 l0_4.length l0_4) (hc0_4:l0_4.length≤c0_4) (h:slot_Copy.f a0_0 a0_1 a0_2 a0_3 l0_4=some (r1,r2,r3,r4,r5)) :
  Calls Try.prog 44 #[.agg #[.bool a0_0,.int .i64 a0_1,.int .u64 a0_2,.int .u64 a0_3,.slice A0_4 l0_4.length c0_4]] w fun e w'=>∃ v4_:Value,e=.returned (.agg #[.bool r1,.int .i64 r2,.int .u64 r3,.int .u64 r4,v4_])∧Kd.R (Kd.int .u8) 5 w' w.heap.size (fun _=>True) v4_ r5∧Below w.heap.size w w':=by
 have hu25:=Try.underlying25
 have HR0_4:=Aside0.mk hr0_4
 have HC0_4:=Aside0.mk hc0_4
 clear hr0_4 hc0_4
 have HB:=Aside0.mk (Below.refl w.heap.size w)
 have H:((some (([]:List Int):List Int)).bind fun y164=>(if y164.length+l0_4.length<140737488355328 then (some (a0_0,a0_1,a0_2,a0_3,(y164++l0_4))) else (none)))=some (r1,r2,r3,r4,r5):=h
 clear h
 obtain ⟨y164,hy164⟩:∃ y_:List Int,y_=(([]:List Int)):=⟨_,rfl⟩
 replace H:(if y164.length+l0_4.length<140737488355328 then (some (a0_0,a0_1,a0_2,a0_3,(y164++l0_4))) else (none))=some (r1,r2,r3,r4,r5):=by first | (rw[hy164];with_reducible exact H) | (have H2_:=(Option.bind_some _ _).symm.trans H;rw[hy164];with_reducible exact H2_) | (have H2_:=(Option.bind_some _ _).symm.trans H;with_reducible exact H2_) | with_reducible exact H | (rw[hy164];exact H) | exact H
 have Ny164:=Aside0.mk hy164
 clear hy164
 by_cases c2:y164.length+l0_4.length<140737488355328
 ·rw[if_pos c2] at H
  have LMc2:=Aside0.mk c2
  clear c2
  obtain ⟨y167,hy167⟩:∃ y_:List Int,y_=(y164++l0_4):=⟨_,rfl⟩
  replace H:(some (a0_0,a0_1,a0_2,a0_3,y167))=some (r1,r2,r3,r4,r5):=by first | (rw[hy167];with_reducible exact H) | (have H2_:=(Option.bind_some _ _).symm.trans H;rw[hy167];with_reducible exact H2_) | (have H2_:=(Option.bind_some _ _).symm.trans H;with_reducible exact H2_) | with_reducible exact H | (rw[hy167];exact H) | exact H
  have Ny167:=Aside0.mk hy167
  clear hy167
  simp only[Option.some.injEq,Prod.mk.injEq] at H
  obtain ⟨rfl,rfl,rfl,rfl,rfl⟩:=H
  go_enter Try.func44,Try.ntmps44
  go_wp2_with (first | ((with_reducible refine gate_dst (N:=1) rfl ?_);refine box_event ?hg (N:=1) ?hd (cs:=#[.bool a0_0,.int .i64 a0_1,.int .u64 a0_2,.int .u64 a0_3,.slice A0_4 l0_4.length c0_4]) (t:=25) ?hr ?_;(case hd=>rfl);(case hg=>rfl);(case hr=>first | (go_simp;done) | (go_simp;rfl) | (go_simp;simp only[IntKind.wrap_u32,Int.emod_add_emod,Int.add_emod_emod]));intro gb162 hg w3 hbox hb;have n0_:=Aside0.mk (below_step (by repeat (first | (with_reducible first | exact HB.out | apply below_alloc | apply pw_below_drewN | apply below_drew1) | exact HB.out)) hb);have n1_:=Aside0.mk (hbox);have n2_:=Aside0.mk ((by rw[hg];exact (below_size (by repeat (first | (with_reducible first | exact HB.out | apply below_alloc | apply pw_below_drewN | apply below_drew1) | exact HB.out))):w.heap.size≤gb162));have n3_:=Aside0.mk ((by rw[hg];exact (below_size (by repeat (first | (with_reducible first | exact HB.out | apply below_alloc | apply pw_below_drewN | apply below_drew1) | exact HB.out))):w.heap.size≤gb162));clear HB;have HB:=n0_;have BK162:=n1_;have GW162:=n2_;have GE162:=n3_;clear n0_ n1_ n2_ n3_;clear hb hbox hg) | ((with_reducible refine gate_dst (N:=2) rfl ?_);refine box_event ?hg (N:=2) ?hd (cs:=#[.bool false,.int .i64 0,.int .u64 0,.int .u64 0,.slice none 0 0]) (t:=25) ?hr ?_;(case hd=>rfl);(case hg=>rfl);(case hr=>first | (go_simp;done) | (go_simp;rfl) | (go_simp;simp only[IntKind.wrap_u32,Int.emod_add_emod,Int.add_emod_emod]));intro gb163 hg w4 hbox hb;have n0_:=Aside0.mk (blk_below (g:=gb162) (o:=.cells #[.bool a0_0,.int .i64 a0_1,.int .u64 a0_2,.int .u64 a0_3,.slice A0_4 l0_4.length c0_4] 25 (0,0)) (by (with_reducible repeat (first | refine blk_drewN ?_ _ | refine blk_drew ?_ | refine blk_alloc ?_ _));exact BK162.out) hb);have n1_:=Aside0.mk (below_step (by repeat (first | (with_reducible first | exact HB.out | apply below_alloc | apply pw_below_drewN | apply below_drew1 | refine below_set ?_ GE162.out) | exact HB.out)) hb);have n2_:=Aside0.mk (hbox);have n3_:=Aside0.mk ((by rw[hg];exact (below_size (by repeat (first | (with_reducible first | exact HB.out | apply below_alloc | apply pw_below_drewN | apply below_drew1 | refine below_set ?_ GE162.out) | exact HB.out))):w.heap.size≤gb163));have n4_:=Aside0.mk ((by rw[hg];exact (below_size (by repeat (first | (with_reducible first | exact HB.out | apply below_alloc | apply pw_below_drewN | apply below_drew1 | refine below_set ?_ GE162.out) | exact HB.out))):w.heap.size≤gb163));have n5_:=Aside0.mk ((by rw[hg];exact Nat.ne_of_lt (blk_lt (g:=gb162) (o:=.cells #[.bool a0_0,.int .i64 a0_1,.int .u64 a0_2,.int .u64 a0_3,.slice A0_4 l0_4.length c0_4] 25 (0,0)) (by (with_reducible repeat (first | refine blk_drewN ?_ _ | refine blk_drew ?_ | refine blk_alloc ?_ _));exact BK162.out)):gb162≠gb163));have n6_:=Aside0.mk ((by rw[hg];exact Nat.ne_of_gt (blk_lt (g:=gb162) (o:=.cells #[.bool a0_0,.int .i64 a0_1,.int .u64 a0_2,.int .u64 a0_3,.slice A0_4 l0_4.length c0_4] 25 (0,0)) (by (with_reducible repeat (first | refine blk_drewN ?_ _ | refine blk_drew ?_ | refine blk_alloc ?_ _));exact BK162.out)):gb163≠gb162));clear BK162;clear HB;have BK162:=n0_;have HB:=n1_;have BK163:=n2_;have GW163:=n3_;have GE163:=n4_;have NB162_163:=n5_;have NB163_162:=n6_;clear n0_ n1_ n2_ n3_ n4_ n5_ n6_;clear hb hbox hg) | ((with_reducible refine gate_dst (N:=3) rfl ?_);refine Kd.R_lit (Kd.int .u8) _ 5 ?hg (N:=3) ?hd (xs:=([]:List Int)) (inner:=[]) (ok:=fun _=>True) (okp:=fun _=>True) ?hr ?hp (fun _ hk=>hk) trivial (Below.refl _ _) (Nat.le_refl _) (by simp) ?_;(case hd=>rfl);(case hg=>rfl);(case hr=>first | (go_simp;done) | (go_simp;rfl) | (go_simp;simp only[IntKind.wrap_u32,Int.emod_add_emod,Int.add_emod_emod]));(case hp=>exact (Reps.none _ _));intro v165 w5 ho6 hb hg_ hnew_;clear hg_ hnew_;(first | rw[← Ny164.out] at ho6 | (simp only[Int.reduceToNat] at ho6;rw[← Ny164.out] at ho6));have n0_:=Aside0.mk (Kd.R_lower ho6 (below_size (by repeat (first | (with_reducible first | exact HB.out | apply below_alloc | apply pw_below_drewN | apply below_drew1 | refine below_set ?_ GE162.out | refine below_set ?_ GE163.out) | exact HB.out))));have n1_:=Aside0.mk (blk_below (g:=gb162) (o:=.cells #[.bool a0_0,.int .i64 a0_1,.int .u64 a0_2,.int .u64 a0_3,.slice A0_4 l0_4.length c0_4] 25 (0,0)) (by (with_reducible repeat (first | refine blk_drewN ?_ _ | refine blk_drew ?_ | refine blk_alloc ?_ _));exact BK162.out) hb);have n2_:=Aside0.mk (blk_below (g:=gb163) (o:=.cells #[.bool false,.int .i64 0,.int .u64 0,.int .u64 0,.slice none 0 0] 25 (0,0)) (by (with_reducible repeat (first | refine blk_drewN ?_ _ | refine blk_drew ?_ | refine blk_alloc ?_ _));exact BK163.out) hb);have n3_:=Aside0.mk (below_step (by repeat (first | (with_reducible first | exact HB.out | apply below_alloc | apply pw_below_drewN | apply below_drew1 | refine below_set ?_ GE162.out | refine below_set ?_ GE163.out) | exact HB.out)) hb);clear BK162;clear BK163;clear HB;have HO166:=n0_;have BK162:=n1_;have BK163:=n2_;have HB:=n3_;clear n0_ n1_ n2_ n3_;clear hb ho6;have hnb7:=NB162_163.out;have hnc7:=NB163_162.out;have hcz8_0:w5.cell? ⟨gb162,0,none⟩=some (.bool a0_0):=(blk_cell BK162.out 0).trans rfl;have hcz8_1:w5.cell? ⟨gb162,1,none⟩=some (.int .i64 a0_1):=(blk_cell BK162.out 1).trans rfl;have hcz8_2:w5.cell? ⟨gb162,2,none⟩=some (.int .u64 a0_2):=(blk_cell BK162.out 2).trans rfl;have hcz8_3:w5.cell? ⟨gb162,3,none⟩=some (.int .u64 a0_3):=(blk_cell BK162.out 3).trans rfl;have hcz8_4:w5.cell? ⟨gb162,4,none⟩=some (.slice A0_4 l0_4.length c0_4):=(blk_cell BK162.out 4).trans rfl;have hfz8_0:=blk_frozen BK162.out 0;have hfz8_1:=blk_frozen BK162.out 1;have hfz8_2:=blk_frozen BK162.out 2;have hfz8_3:=blk_frozen BK162.out 3;have hfz8_4:=blk_frozen BK162.out 4) | ((with_reducible refine gate_builtin (b:=.append) (xs:=#[.tmp 3,.tmp 5]) rfl ?_);at_builtin;refine Kd.R_append_rows (Kd.int .u8) (w0:=w) w.heap.size rfl (.tmp 3) (.tmp 5) 23 5 (.int .u8 0) 1 rfl Try.underlying23 info5 rfl (by decide) (by omega) v165 y164 l0_4 _ _ _ (fun _=>True) (fun _=>False) rfl rfl ?aO ?aR (fun _ _ h=>h) (fun _ h=>h.elim) ?aF ?aB ?aS ?aL ?_;(case aR=>repeat (first | exact (Kd.C_below HR0_4.out HB.out) | (with_reducible refine Kd.C_alloc ?_ _) | (with_reducible refine Kd.C_drewN ?_ _) | (with_reducible refine Kd.C_drew ?_)));(case aB=>exact (by repeat (first | (with_reducible first | exact HB.out | apply below_alloc | apply pw_below_drewN | apply below_drew1 | refine below_set ?_ GE162.out | refine below_set ?_ GE163.out) | exact HB.out)));(case aF=>exact (fun _ _=>trivial));(case aO=>exact (by (with_reducible repeat (first | apply Kd.R_alloc | apply Kd.R_drewN | apply Kd.R_drew));exact HO166.out));(case aS=>exact (below_size (by repeat (first | (with_reducible first | exact HB.out | apply below_alloc | apply pw_below_drewN | apply below_drew1 | refine below_set ?_ GE162.out | refine below_set ?_ GE163.out) | exact HB.out))));(case aL=>have:=LMc2.out;omega);intro v168 w9 ho hb hg hat;rw[← Ny167.out] at ho;have n0_:=Aside0.mk (blk_grown (g:=gb162) (o:=.cells #[.bool a0_0,.int .i64 a0_1,.int .u64 a0_2,.int .u64 a0_3,.slice A0_4 l0_4.length c0_4] 25 (0,0)) (by (with_reducible repeat (first | refine blk_drewN ?_ _ | refine blk_drew ?_ | refine blk_alloc ?_ _));exact BK162.out) hg (Kd.R_ne HO166.out BK162.out (by decide)));have n1_:=Aside0.mk (blk_grown (g:=gb163) (o:=.cells #[.bool false,.int .i64 0,.int .u64 0,.int .u64 0,.slice none 0 0] 25 (0,0)) (by (with_reducible repeat (first | refine blk_drewN ?_ _ | refine blk_drew ?_ | refine blk_alloc ?_ _));exact BK163.out) hg (Kd.R_ne HO166.out BK163.out (by decide)));have n2_:=Aside0.mk (hb);have n3_:=Aside0.mk (ho);clear BK162;clear BK163;clear HB;clear HO166;have BK162:=n0_;have BK163:=n1_;have HB:=n2_;have HO169:=n3_;clear n0_ n1_ n2_ n3_;clear ho hb hg hat;obtain ⟨Ao10,co10,eo10⟩:=Kd.R_slice HO169.out;subst eo10;have hcz11_0:w9.cell? ⟨gb162,0,none⟩=some (.bool a0_0):=(blk_cell BK162.out 0).trans rfl;have hcz11_1:w9.cell? ⟨gb162,1,none⟩=some (.int .i64 a0_1):=(blk_cell BK162.out 1).trans rfl;have hcz11_2:w9.cell? ⟨gb162,2,none⟩=some (.int .u64 a0_2):=(blk_cell BK162.out 2).trans rfl;have hcz11_3:w9.cell? ⟨gb162,3,none⟩=some (.int .u64 a0_3):=(blk_cell BK162.out 3).trans rfl;have hcz11_4:w9.cell? ⟨gb162,4,none⟩=some (.slice A0_4 l0_4.length c0_4):=(blk_cell BK162.out 4).trans rfl;have hfz11_0:=blk_frozen BK162.out 0;have hfz11_1:=blk_frozen BK162.out 1;have hfz11_2:=blk_frozen BK162.out 2;have hfz11_3:=blk_frozen BK162.out 3;have hfz11_4:=blk_frozen BK162.out 4;have hcz12_0:w9.cell? ⟨gb163,0,none⟩=some (.bool false):=(blk_cell BK163.out 0).trans rfl;have hcz12_1:w9.cell? ⟨gb163,1,none⟩=some (.int .i64 0):=(blk_cell BK163.out 1).trans rfl;have hcz12_2:w9.cell? ⟨gb163,2,none⟩=some (.int .u64 0):=(blk_cell BK163.out 2).trans rfl;have hcz12_3:w9.cell? ⟨gb163,3,none⟩=some (.int .u64 0):=(blk_cell BK163.out 3).trans rfl;have hcz12_4:w9.cell? ⟨gb163,4,none⟩=some (.slice none 0 0):=(blk_cell BK163.out 4).trans rfl;have hfz12_0:=blk_frozen BK163.out 0;have hfz12_1:=blk_frozen BK163.out 1;have hfz12_2:=blk_frozen BK163.out 2;have hfz12_3:=blk_frozen BK163.out 3;have hfz12_4:=blk_frozen BK163.out 4))
  refine bodyPost_ret (results_cell_row rfl _ _ gb163 25 #[.bool a0_0,.int .i64 a0_1,.int .u64 a0_2,.int .u64 a0_3,.slice Ao10 y167.length co10] (0,0) _ rfl (by (with_reducible repeat (first | refine blk_drewN ?_ _ | refine blk_drew ?_ | refine blk_alloc ?_ _));refine blk_put (cs:=#[.bool a0_0,.int .i64 a0_1,.int .u64 a0_2,.int .u64 a0_3,.slice none 0 0]) ?_ 4 _ rfl;(with_reducible repeat (first | refine blk_drewN ?_ _ | refine blk_drew ?_ | refine blk_alloc ?_ _));refine blk_put (cs:=#[.bool a0_0,.int .i64 a0_1,.int .u64 a0_2,.int .u64 0,.slice none 0 0]) ?_ 3 _ rfl;(with_reducible repeat (first | refine blk_drewN ?_ _ | refine blk_drew ?_ | refine blk_alloc ?_ _));refine blk_put (cs:=#[.bool a0_0,.int .i64 a0_1,.int .u64 0,.int .u64 0,.slice none 0 0]) ?_ 2 _ rfl;(with_reducible repeat (first | refine blk_drewN ?_ _ | refine blk_drew ?_ | refine blk_alloc ?_ _));refine blk_put (cs:=#[.bool a0_0,.int .i64 0,.int .u64 0,.int .u64 0,.slice none 0 0]) ?_ 1 _ rfl;(with_reducible repeat (first | refine blk_drewN ?_ _ | refine blk_drew ?_ | refine blk_alloc ?_ _));refine blk_put (cs:=#[.bool false,.int .i64 0,.int .u64 0,.int .u64 0,.slice none 0 0]) ?_ 0 _ rfl;(with_reducible repeat (first | refine blk_drewN ?_ _ | refine blk_drew ?_ | refine blk_alloc ?_ _));refine blk_far ?_ NB163_162.out _;(with_reducible repeat (first | refine blk_drewN ?_ _ | refine blk_drew ?_ | refine blk_alloc ?_ _));exact BK163.out) Try.underlying25 rfl (by kernel_rfl)) rfl ?_
  exact ⟨_,by first | rfl | (simp[errW_none,errW_some] <;> rfl) | (simp[*,errW_none,errW_some] <;> rfl),by (with_reducible repeat (first | apply Kd.R_alloc | apply Kd.R_drewN | apply Kd.R_drew));exact Kd.R_mono (Kd.R_far (p:=⟨gb163,4,none⟩) (Kd.R_far (p:=⟨gb163,3,none⟩) (Kd.R_far (p:=⟨gb163,2,none⟩) (Kd.R_far (p:=⟨gb163,1,none⟩) (Kd.R_far (p:=⟨gb163,0,none⟩) (Kd.R_far (p:=⟨gb162,4,none⟩) (Kd.R_types (Kd.R_types HO169.out BK162.out (by decide)) BK163.out (by decide)) (fun _ hk=>hk.1.2) (.slice Ao10 y167.length co10)) (fun _ hk=>by first | exact hk.2 | trivial) (.bool a0_0)) (fun _ hk=>by first | exact hk.2 | trivial) (.int .i64 a0_1)) (fun _ hk=>by first | exact hk.2 | trivial) (.int .u64 a0_2)) (fun _ hk=>by first | exact hk.2 | trivial) (.int .u64 a0_3)) (fun _ hk=>by first | exact hk.2 | trivial) (.slice Ao10 y167.length co10)) (fun _ hk=>trivial),by repeat (first | (with_reducible first | exact HB.out | apply below_alloc | apply pw_below_drewN | apply below_drew1 | refine below_set ?_ GE162.out | refine below_set ?_ GE163.out) | exact HB.out)⟩
 rw[if_neg c2] at H
 exact absurd H (by simp)
def nepentheref17_Right.f (a0_0:Bool) (a0_1:Int) (a0_2:Int) (a0_3:Int) (l0_4:List Int):Option (Bool):=if a0_0=true then (if a0_1≥1 then (if a0_1≤65535 then (some ((l0_4.length:Int) == 104)) else (some false)) else (some false)) else (if a0_1=0 then (if a0_2=0 then (if a0_3=0 then (some ((l0_4.length:Int) == 0)) else (some false)) else (some false)) else (some false))
set_option maxHeartbeats 8000000 in
set_option maxRecDepth 100000 in
theorem nepentheref17_Right.calls (a0_0:Bool) (a0_1:Int) (a0_2:Int) (a0_3:Int) (A0_4:Option Addr) (c0_4:Nat) (l0_4:List Int) (r:Bool) (w:World) (hr0_4:Kd.C (Kd.int .u8) w A0_4 l0_4.length l0_4) (hc0_4:l0_4.length≤c0_4) (h:nepentheref17_Right.f a0_0 a0_1 a0_2 a0_3 l0_4=some r) :
  Calls Try.prog 46 #[.agg #[.bool a0_0,.int .i64 a0_1,.int .u64 a0_2,.int .u64 a0_3,.slice A0_4 l0_4.length c0_4]] w fun e w'=>e=.returned (.bool r)∧Below w.heap.size w w':=by
 have hu36:=Try.underlying36
 have HR0_4:=Aside0.mk hr0_4
 have HC0_4:=Aside0.mk hc0_4
 clear hr0_4 hc0_4
 have HB:=Aside0.mk (Below.refl w.heap.size w)
 have H:(if a0_0=true then (if a0_1≥1 then (if a0_1≤65535 then (some ((l0_4.length:Int) == 104)) else (some false)) else (some false)) else (if a0_1=0 then (if a0_2=0 then (if a0_3=0 then (some ((l0_4.length:Int) == 0)) else (some false)) else (some false)) else (some false)))=some r:=h
 clear h
 by_cases c2:a0_0=true
 ·subst c2
  have H1:(if a0_1≥1 then (if a0_1≤65535 then (some ((l0_4.length:Int) == 104)) else (some false)) else (some false))=some r:=by rw[if_pos rfl] at H;exact H
  clear H
  have H:=H1
  clear H1
  by_cases c3:a0_1≥1
  ·rw[if_pos c3] at H
   have c3b0:decide (1≤a0_1)=true:=decide_eq_true c3
   clear c3
   by_cases c4:a0_1≤65535
   ·rw[if_pos c4] at H
    have c4b0:decide (a0_1≤65535)=true:=decide_eq_true c4
    clear c4
    obtain rfl:=Option.some.inj H
    go_enter Try.func46,Try.ntmps46
    go_wp2_with (first | ((with_reducible refine gate_dst (N:=1) rfl ?_);(try (refine gate_guard (by rfl) ?_;dsimp only));refine box_event ?hg (N:=1) ?hd (cs:=#[.bool true,.int .i64 a0_1,.int .u64 a0_2,.int .u64 a0_3,.slice A0_4 l0_4.length c0_4]) (t:=36) ?hr ?_;(case hd=>rfl);(case hg=>rfl);(case hr=>first | (go_simp;done) | (go_simp;rfl) | (go_simp;simp only[IntKind.wrap_u32,Int.emod_add_emod,Int.add_emod_emod]));intro gb170 hg w5 hbox hb;have n0_:=Aside0.mk (below_step (by repeat (first | (with_reducible first | exact HB.out | apply below_alloc | apply pw_below_drewN | apply below_drew1) | exact HB.out)) hb);have n1_:=Aside0.mk (hbox);have n2_:=Aside0.mk ((by rw[hg];exact (below_size (by repeat (first | (with_reducible first | exact HB.out | apply below_alloc | apply pw_below_drewN | apply below_drew1) | exact HB.out))):w.heap.size≤gb170));have n3_:=Aside0.mk ((by rw[hg];exact (below_size (by repeat (first | (with_reducible first | exact HB.out | apply below_alloc | apply pw_below_drewN | apply below_drew1) | exact HB.out))):w.heap.size≤gb170));clear HB;have HB:=n0_;have BK170:=n1_;have GW170:=n2_;have GE170:=n3_;clear n0_ n1_ n2_ n3_;clear hb hbox hg;have hcz6_0:w5.cell? ⟨gb170,0,none⟩=some (.bool true):=(blk_cell BK170.out 0).trans rfl;have hcz6_1:w5.cell? ⟨gb170,1,none⟩=some (.int .i64 a0_1):=(blk_cell BK170.out 1).trans rfl;have hcz6_2:w5.cell? ⟨gb170,2,none⟩=some (.int .u64 a0_2):=(blk_cell BK170.out 2).trans rfl;have hcz6_3:w5.cell? ⟨gb170,3,none⟩=some (.int .u64 a0_3):=(blk_cell BK170.out 3).trans rfl;have hcz6_4:w5.cell? ⟨gb170,4,none⟩=some (.slice A0_4 l0_4.length c0_4):=(blk_cell BK170.out 4).trans rfl;have hfz6_0:=blk_frozen BK170.out 0;have hfz6_1:=blk_frozen BK170.out 1;have hfz6_2:=blk_frozen BK170.out 2;have hfz6_3:=blk_frozen BK170.out 3;have hfz6_4:=blk_frozen BK170.out 4))
    go_ret
    exact ⟨by first | rfl | (simp[errW_none,errW_some] <;> rfl) | (simp[*,errW_none,errW_some] <;> rfl),by repeat (first | (with_reducible first | exact HB.out | apply below_alloc | apply pw_below_drewN | apply below_drew1 | refine below_set ?_ GE170.out) | exact HB.out)⟩
   rw[if_neg c4] at H
   have c4b0:decide (a0_1≤65535)=false:=decide_eq_false c4
   clear c4
   obtain rfl:=Option.some.inj H
   go_enter Try.func46,Try.ntmps46
   go_wp2_with (first | ((with_reducible refine gate_dst (N:=1) rfl ?_);(try (refine gate_guard (by rfl) ?_;dsimp only));refine box_event ?hg (N:=1) ?hd (cs:=#[.bool true,.int .i64 a0_1,.int .u64 a0_2,.int .u64 a0_3,.slice A0_4 l0_4.length c0_4]) (t:=36) ?hr ?_;(case hd=>rfl);(case hg=>rfl);(case hr=>first | (go_simp;done) | (go_simp;rfl) | (go_simp;simp only[IntKind.wrap_u32,Int.emod_add_emod,Int.add_emod_emod]));intro gb170 hg w7 hbox hb;have n0_:=Aside0.mk (below_step (by repeat (first | (with_reducible first | exact HB.out | apply below_alloc | apply pw_below_drewN | apply below_drew1) | exact HB.out)) hb);have n1_:=Aside0.mk (hbox);have n2_:=Aside0.mk ((by rw[hg];exact (below_size (by repeat (first | (with_reducible first | exact HB.out | apply below_alloc | apply pw_below_drewN | apply below_drew1) | exact HB.out))):w.heap.size≤gb170));have n3_:=Aside0.mk ((by rw[hg];exact (below_size (by repeat (first | (with_reducible first | exact HB.out | apply below_alloc | apply pw_below_drewN | apply below_drew1) | exact HB.out))):w.heap.size≤gb170));clear HB;have HB:=n0_;have BK170:=n1_;have GW170:=n2_;have GE170:=n3_;clear n0_ n1_ n2_ n3_;clear hb hbox hg;have hcz8_0:w7.cell? ⟨gb170,0,none⟩=some (.bool true):=(blk_cell BK170.out 0).trans rfl;have hcz8_1:w7.cell? ⟨gb170,1,none⟩=some (.int .i64 a0_1):=(blk_cell BK170.out 1).trans rfl;have hcz8_2:w7.cell? ⟨gb170,2,none⟩=some (.int .u64 a0_2):=(blk_cell BK170.out 2).trans rfl;have hcz8_3:w7.cell? ⟨gb170,3,none⟩=some (.int .u64 a0_3):=(blk_cell BK170.out 3).trans rfl;have hcz8_4:w7.cell? ⟨gb170,4,none⟩=some (.slice A0_4 l0_4.length c0_4):=(blk_cell BK170.out 4).trans rfl;have hfz8_0:=blk_frozen BK170.out 0;have hfz8_1:=blk_frozen BK170.out 1;have hfz8_2:=blk_frozen BK170.out 2;have hfz8_3:=blk_frozen BK170.out 3;have hfz8_4:=blk_frozen BK170.out 4))
   go_ret
   exact ⟨by first | rfl | (simp[errW_none,errW_some] <;> rfl) | (simp[*,errW_none,errW_some] <;> rfl),by repeat (first | (with_reducible first | exact HB.out | apply below_alloc | apply pw_below_drewN | apply below_drew1 | refine below_set ?_ GE170.out) | exact HB.out)⟩
  rw[if_neg c3] at H
  have c3b0:decide (1≤a0_1)=false:=decide_eq_false c3
  clear c3
  obtain rfl:=Option.some.inj H
  go_enter Try.func46,Try.ntmps46
  go_wp2_with (first | ((with_reducible refine gate_dst (N:=1) rfl ?_);(try (refine gate_guard (by rfl) ?_;dsimp only));refine box_event ?hg (N:=1) ?hd (cs:=#[.bool true,.int .i64 a0_1,.int .u64 a0_2,.int .u64 a0_3,.slice A0_4 l0_4.length c0_4]) (t:=36) ?hr ?_;(case hd=>rfl);(case hg=>rfl);(case hr=>first | (go_simp;done) | (go_simp;rfl) | (go_simp;simp only[IntKind.wrap_u32,Int.emod_add_emod,Int.add_emod_emod]));intro gb170 hg w9 hbox hb;have n0_:=Aside0.mk (below_step (by repeat (first | (with_reducible first | exact HB.out | apply below_alloc | apply pw_below_drewN | apply below_drew1) | exact HB.out)) hb);have n1_:=Aside0.mk (hbox);have n2_:=Aside0.mk ((by rw[hg];exact (below_size (by repeat (first | (with_reducible first | exact HB.out | apply below_alloc | apply pw_below_drewN | apply below_drew1) | exact HB.out))):w.heap.size≤gb170));have n3_:=Aside0.mk ((by rw[hg];exact (below_size (by repeat (first | (with_reducible first | exact HB.out | apply below_alloc | apply pw_below_drewN | apply below_drew1) | exact HB.out))):w.heap.size≤gb170));clear HB;have HB:=n0_;have BK170:=n1_;have GW170:=n2_;have GE170:=n3_;clear n0_ n1_ n2_ n3_;clear hb hbox hg;have hcz10_0:w9.cell? ⟨gb170,0,none⟩=some (.bool true):=(blk_cell BK170.out 0).trans rfl;have hcz10_1:w9.cell? ⟨gb170,1,none⟩=some (.int .i64 a0_1):=(blk_cell BK170.out 1).trans rfl;have hcz10_2:w9.cell? ⟨gb170,2,none⟩=some (.int .u64 a0_2):=(blk_cell BK170.out 2).trans rfl;have hcz10_3:w9.cell? ⟨gb170,3,none⟩=some (.int .u64 a0_3):=(blk_cell BK170.out 3).trans rfl;have hcz10_4:w9.cell? ⟨gb170,4,none⟩=some (.slice A0_4 l0_4.length c0_4):=(blk_cell BK170.out 4).trans rfl;have hfz10_0:=blk_frozen BK170.out 0;have hfz10_1:=blk_frozen BK170.out 1;have hfz10_2:=blk_frozen BK170.out 2;have hfz10_3:=blk_frozen BK170.out 3;have hfz10_4:=blk_frozen BK170.out 4))
  go_ret
  exact ⟨by first | rfl | (simp[errW_none,errW_some] <;> rfl) | (simp[*,errW_none,errW_some] <;> rfl),by repeat (first | (with_reducible first | exact HB.out | apply below_alloc | apply pw_below_drewN | apply below_drew1 | refine below_set ?_ GE170.out) | exact HB.out)⟩
 replace c2:=Bool.eq_false_iff.mpr c2
 subst c2
 have H1:(if a0_1=0 then (if a0_2=0 then (if a0_3=0 then (some ((l0_4.length:Int) == 0)) else (some false)) else (some false)) else (some false))=some r:=by rw[if_neg (show ¬ (false=true) by decide)] at H;exact H
 clear H
 have H:=H1
 clear H1
 by_cases c11:a0_1=0
 ·rw[if_pos c11] at H
  have c11b0:(a0_1 == 0)=true:=beq_iff_eq.mpr c11
  have c11b1:(a0_1 != 0)=false:=bne_eq_false_iff_eq.mpr c11
  clear c11
  by_cases c12:a0_2=0
  ·rw[if_pos c12] at H
   have c12b0:(a0_2 == 0)=true:=beq_iff_eq.mpr c12
   have c12b1:(a0_2 != 0)=false:=bne_eq_false_iff_eq.mpr c12
   clear c12
   by_cases c13:a0_3=0
   ·rw[if_pos c13] at H
    have c13b0:(a0_3 == 0)=true:=beq_iff_eq.mpr c13
    have c13b1:(a0_3 != 0)=false:=bne_eq_false_iff_eq.mpr c13
    clear c13
    obtain rfl:=Option.some.inj H
    go_enter Try.func46,Try.ntmps46
    go_wp2_with (first | ((with_reducible refine gate_dst (N:=1) rfl ?_);(try (refine gate_guard (by rfl) ?_;dsimp only));refine box_event ?hg (N:=1) ?hd (cs:=#[.bool false,.int .i64 a0_1,.int .u64 a0_2,.int .u64 a0_3,.slice A0_4 l0_4.length c0_4]) (t:=36) ?hr ?_;(case hd=>rfl);(case hg=>rfl);(case hr=>first | (go_simp;done) | (go_simp;rfl) | (go_simp;simp only[IntKind.wrap_u32,Int.emod_add_emod,Int.add_emod_emod]));intro gb170 hg w14 hbox hb;have n0_:=Aside0.mk (below_step (by repeat (first | (with_reducible first | exact HB.out | apply below_alloc | apply pw_below_drewN | apply below_drew1) | exact HB.out)) hb);have n1_:=Aside0.mk (hbox);have n2_:=Aside0.mk ((by rw[hg];exact (below_size (by repeat (first | (with_reducible first | exact HB.out | apply below_alloc | apply pw_below_drewN | apply below_drew1) | exact HB.out))):w.heap.size≤gb170));have n3_:=Aside0.mk ((by rw[hg];exact (below_size (by repeat (first | (with_reducible first | exact HB.out | apply below_alloc | apply pw_below_drewN | apply below_drew1) | exact HB.out))):w.heap.size≤gb170));clear HB;have HB:=n0_;have BK170:=n1_;have GW170:=n2_;have GE170:=n3_;clear n0_ n1_ n2_ n3_;clear hb hbox hg;have hcz15_0:w14.cell? ⟨gb170,0,none⟩=some (.bool false):=(blk_cell BK170.out 0).trans rfl;have hcz15_1:w14.cell? ⟨gb170,1,none⟩=some (.int .i64 a0_1):=(blk_cell BK170.out 1).trans rfl;have hcz15_2:w14.cell? ⟨gb170,2,none⟩=some (.int .u64 a0_2):=(blk_cell BK170.out 2).trans rfl;have hcz15_3:w14.cell? ⟨gb170,3,none⟩=some (.int .u64 a0_3):=(blk_cell BK170.out 3).trans rfl;have hcz15_4:w14.cell? ⟨gb170,4,none⟩=some (.slice A0_4 l0_4.length c0_4):=(blk_cell BK170.out 4).trans rfl;have hfz15_0:=blk_frozen BK170.out 0;have hfz15_1:=blk_frozen BK170.out 1;have hfz15_2:=blk_frozen BK170.out 2;have hfz15_3:=blk_frozen BK170.out 3;have hfz15_4:=blk_frozen BK170.out 4))
    go_ret
    exact ⟨by first | rfl | (simp[errW_none,errW_some] <;> rfl) | (simp[*,errW_none,errW_some] <;> rfl),by repeat (first | (with_reducible first | exact HB.out | apply below_alloc | apply pw_below_drewN | apply below_drew1 | refine below_set ?_ GE170.out) | exact HB.out)⟩
   rw[if_neg c13] at H
   have c13b0:(a0_3 == 0)=false:=beq_eq_false_iff_ne.mpr c13
   have c13b1:(a0_3 != 0)=true:=bne_iff_ne.mpr c13
   obtain rfl:=Option.some.inj H
   go_enter Try.func46,Try.ntmps46
   go_wp2_with (first | ((with_reducible refine gate_dst (N:=1) rfl ?_);(try (refine gate_guard (by rfl) ?_;dsimp only));refine box_event ?hg (N:=1) ?hd (cs:=#[.bool false,.int .i64 a0_1,.int .u64 a0_2,.int .u64 a0_3,.slice A0_4 l0_4.length c0_4]) (t:=36) ?hr ?_;(case hd=>rfl);(case hg=>rfl);(case hr=>first | (go_simp;done) | (go_simp;rfl) | (go_simp;simp only[IntKind.wrap_u32,Int.emod_add_emod,Int.add_emod_emod]));intro gb170 hg w16 hbox hb;have n0_:=Aside0.mk (below_step (by repeat (first | (with_reducible first | exact HB.out | apply below_alloc | apply pw_below_drewN | apply below_drew1) | exact HB.out)) hb);have n1_:=Aside0.mk (hbox);have n2_:=Aside0.mk ((by rw[hg];exact (below_size (by repeat (first | (with_reducible first | exact HB.out | apply below_alloc | apply pw_below_drewN | apply below_drew1) | exact HB.out))):w.heap.size≤gb170));have n3_:=Aside0.mk ((by rw[hg];exact (below_size (by repeat (first | (with_reducible first | exact HB.out | apply below_alloc | apply pw_below_drewN | apply below_drew1) | exact HB.out))):w.heap.size≤gb170));clear HB;have HB:=n0_;have BK170:=n1_;have GW170:=n2_;have GE170:=n3_;clear n0_ n1_ n2_ n3_;clear hb hbox hg;have hcz17_0:w16.cell? ⟨gb170,0,none⟩=some (.bool false):=(blk_cell BK170.out 0).trans rfl;have hcz17_1:w16.cell? ⟨gb170,1,none⟩=some (.int .i64 a0_1):=(blk_cell BK170.out 1).trans rfl;have hcz17_2:w16.cell? ⟨gb170,2,none⟩=some (.int .u64 a0_2):=(blk_cell BK170.out 2).trans rfl;have hcz17_3:w16.cell? ⟨gb170,3,none⟩=some (.int .u64 a0_3):=(blk_cell BK170.out 3).trans rfl;have hcz17_4:w16.cell? ⟨gb170,4,none⟩=some (.slice A0_4 l0_4.length c0_4):=(blk_cell BK170.out 4).trans rfl;have hfz17_0:=blk_frozen BK170.out 0;have hfz17_1:=blk_frozen BK170.out 1;have hfz17_2:=blk_frozen BK170.out 2;have hfz17_3:=blk_frozen BK170.out 3;have hfz17_4:=blk_frozen BK170.out 4))
   go_ret
   exact ⟨by first | rfl | (simp[errW_none,errW_some] <;> rfl) | (simp[*,errW_none,errW_some] <;> rfl),by repeat (first | (with_reducible first | exact HB.out | apply below_alloc | apply pw_below_drewN | apply below_drew1 | refine below_set ?_ GE170.out) | exact HB.out)⟩
  rw[if_neg c12] at H
  have c12b0:(a0_2 == 0)=false:=beq_eq_false_iff_ne.mpr c12
  have c12b1:(a0_2 != 0)=true:=bne_iff_ne.mpr c12
  obtain rfl:=Option.some.inj H
  go_enter Try.func46,Try.ntmps46
  go_wp2_with (first | ((with_reducible refine gate_dst (N:=1) rfl ?_);(try (refine gate_guard (by rfl) ?_;dsimp only));refine box_event ?hg (N:=1) ?hd (cs:=#[.bool false,.int .i64 a0_1,.int .u64 a0_2,.int .u64 a0_3,.slice A0_4 l0_4.length c0_4]) (t:=36) ?hr ?_;(case hd=>rfl);(case hg=>rfl);(case hr=>first | (go_simp;done) | (go_simp;rfl) | (go_simp;simp only[IntKind.wrap_u32,Int.emod_add_emod,Int.add_emod_emod]));intro gb170 hg w18 hbox hb;have n0_:=Aside0.mk (below_step (by repeat (first | (with_reducible first | exact HB.out | apply below_alloc | apply pw_below_drewN | apply below_drew1) | exact HB.out)) hb);have n1_:=Aside0.mk (hbox);have n2_:=Aside0.mk ((by rw[hg];exact (below_size (by repeat (first | (with_reducible first | exact HB.out | apply below_alloc | apply pw_below_drewN | apply below_drew1) | exact HB.out))):w.heap.size≤gb170));have n3_:=Aside0.mk ((by rw[hg];exact (below_size (by repeat (first | (with_reducible first | exact HB.out | apply below_alloc | apply pw_below_drewN | apply below_drew1) | exact HB.out))):w.heap.size≤gb170));clear HB;have HB:=n0_;have BK170:=n1_;have GW170:=n2_;have GE170:=n3_;clear n0_ n1_ n2_ n3_;clear hb hbox hg;have hcz19_0:w18.cell? ⟨gb170,0,none⟩=some (.bool false):=(blk_cell BK170.out 0).trans rfl;have hcz19_1:w18.cell? ⟨gb170,1,none⟩=some (.int .i64 a0_1):=(blk_cell BK170.out 1).trans rfl;have hcz19_2:w18.cell? ⟨gb170,2,none⟩=some (.int .u64 a0_2):=(blk_cell BK170.out 2).trans rfl;have hcz19_3:w18.cell? ⟨gb170,3,none⟩=some (.int .u64 a0_3):=(blk_cell BK170.out 3).trans rfl;have hcz19_4:w18.cell? ⟨gb170,4,none⟩=some (.slice A0_4 l0_4.length c0_4):=(blk_cell BK170.out 4).trans rfl;have hfz19_0:=blk_frozen BK170.out 0;have hfz19_1:=blk_frozen BK170.out 1;have hfz19_2:=blk_frozen BK170.out 2;have hfz19_3:=blk_frozen BK170.out 3;have hfz19_4:=blk_frozen BK170.out 4))
  go_ret
  exact ⟨by first | rfl | (simp[errW_none,errW_some] <;> rfl) | (simp[*,errW_none,errW_some] <;> rfl),by repeat (first | (with_reducible first | exact HB.out | apply below_alloc | apply pw_below_drewN | apply below_drew1 | refine below_set ?_ GE170.out) | exact HB.out)⟩
 rw[if_neg c11] at H
 have c11b0:(a0_1 == 0)=false:=beq_eq_false_iff_ne.mpr c11
 have c11b1:(a0_1 != 0)=true:=bne_iff_ne.mpr c11
 obtain rfl:=Option.some.inj H
 go_enter Try.func46,Try.ntmps46
 go_wp2_with (first | ((with_reducible refine gate_dst (N:=1) rfl ?_);(try (refine gate_guard (by rfl) ?_;dsimp only));refine box_event ?hg (N:=1) ?hd (cs:=#[.bool false,.int .i64 a0_1,.int .u64 a0_2,.int .u64 a0_3,.slice A0_4 l0_4.length c0_4]) (t:=36) ?hr ?_;(case hd=>rfl);(case hg=>rfl);(case hr=>first | (go_simp;done) | (go_simp;rfl) | (go_simp;simp only[IntKind.wrap_u32,Int.emod_add_emod,Int.add_emod_emod]));intro gb170 hg w20 hbox hb;have n0_:=Aside0.mk (below_step (by repeat (first | (with_reducible first | exact HB.out | apply below_alloc | apply pw_below_drewN | apply below_drew1) | exact HB.out)) hb);have n1_:=Aside0.mk (hbox);have n2_:=Aside0.mk ((by rw[hg];exact (below_size (by repeat (first | (with_reducible first | exact HB.out | apply below_alloc | apply pw_below_drewN | apply below_drew1) | exact HB.out))):w.heap.size≤gb170));have n3_:=Aside0.mk ((by rw[hg];exact (below_size (by repeat (first | (with_reducible first | exact HB.out | apply below_alloc | apply pw_below_drewN | apply below_drew1) | exact HB.out))):w.heap.size≤gb170));clear HB;have HB:=n0_;have BK170:=n1_;have GW170:=n2_;have GE170:=n3_;clear n0_ n1_ n2_ n3_;clear hb hbox hg;have hcz21_0:w20.cell? ⟨gb170,0,none⟩=some (.bool false):=(blk_cell BK170.out 0).trans rfl;have hcz21_1:w20.cell? ⟨gb170,1,none⟩=some (.int .i64 a0_1):=(blk_cell BK170.out 1).trans rfl;have hcz21_2:w20.cell? ⟨gb170,2,none⟩=some (.int .u64 a0_2):=(blk_cell BK170.out 2).trans rfl;have hcz21_3:w20.cell? ⟨gb170,3,none⟩=some (.int .u64 a0_3):=(blk_cell BK170.out 3).trans rfl;have hcz21_4:w20.cell? ⟨gb170,4,none⟩=some (.slice A0_4 l0_4.length c0_4):=(blk_cell BK170.out 4).trans rfl;have hfz21_0:=blk_frozen BK170.out 0;have hfz21_1:=blk_frozen BK170.out 1;have hfz21_2:=blk_frozen BK170.out 2;have hfz21_3:=blk_frozen BK170.out 3;have hfz21_4:=blk_frozen BK170.out 4))
 go_ret
 exact ⟨by first | rfl | (simp[errW_none,errW_some] <;> rfl) | (simp[*,errW_none,errW_some] <;> rfl),by repeat (first | (with_reducible first | exact HB.out | apply below_alloc | apply pw_below_drewN | apply below_drew1 | refine below_set ?_ GE170.out) | exact HB.out)⟩
def nepentheref01_SameBytes.l0:Nat→List Int→List Int→Int→Option (Bool)
 |0,_,_,_=>none
 |k+1,x0,x1,x5=>if x5<(x0.length:Int) then (if 0≤x5 then (if x5<(x1.length:Int) then (if (rd x0 x5)=(rd x1 x5) then (nepentheref01_SameBytes.l0 k x0 x1 (wrap64 (x5+1))) else (some false)) else (none)) else (none)) else (some true)
def nepentheref01_SameBytes.f (k:Nat) (l0:List Int) (l1:List Int):Option (Bool):=if (l0.length:Int)=(l1.length:Int) then (nepentheref01_SameBytes.l0 k l0 l1 0) else (some false)
set_option maxHeartbeats 8000000 in
set_option maxRecDepth 100000 in
theorem nepentheref01_SameBytes.calls (k:Nat) (A0:Option Addr) (c0:Nat) (l0:List Int) (A1:Option Addr) (c1:Nat) (l1:List Int) (r:Bool) (w:World) (hr0:Kd.C (Kd.int .u8) w A0 l0.length l0) (hc0:l0.length≤c0) (hr1:Kd.C (Kd.int .u8) w A1 l1.length l1) (hc1:l1.length≤c1) (h:nepentheref01_SameBytes.f k l0 l1=some r) :
  Calls Try.prog 20 #[.slice A0 l0.length c0,.slice A1 l1.length c1] w fun e w'=>e=.returned (.bool r)∧Drawn0 w w':=by
 have HR0:=Aside0.mk hr0
 have HC0:=Aside0.mk hc0
 clear hr0 hc0
 have HR1:=Aside0.mk hr1
 have HC1:=Aside0.mk hc1
 clear hr1 hc1
 have H:(if (l0.length:Int)=(l1.length:Int) then (nepentheref01_SameBytes.l0 k l0 l1 0) else (some false))=some r:=h
 clear h
 by_cases c3:(l0.length:Int)=(l1.length:Int)
 ·rw[if_pos c3] at H
  have c3b0:((l0.length:Int) == (l1.length:Int))=true:=beq_iff_eq.mpr c3
  have c3b1:((l0.length:Int) != (l1.length:Int))=false:=bne_eq_false_iff_eq.mpr c3
  have c3b2:(l0.length == l1.length)=true:=by first | simpa using c3 | (simp at c3 ⊢;omega)
  clear c3
  have H':=Aside0.mk H
  clear H
  go_enter Try.func20,Try.ntmps20
  go_wp2
  repeat (go_quiet (fail);try go_wp2)
  go_loopg [5] k (fun kq v5 w'=>∃ (x5_1:Int),v5=.int .i64 x5_1∧Aside0 (nepentheref01_SameBytes.l0 kq l0 l1 x5_1=some r)∧Aside0 (kq≤k)∧Drawn0 w w')
  case atStart=>exact ⟨(0),(by first | rfl | (simp;done) | (simp[*];done)),H',⟨Nat.le_refl _⟩,by repeat (first | exact Drawn0.refl _ | apply Drawn0.step)⟩
  case round=>
   clear H'
   try clear c1
   try clear c2
   try clear p2
   try clear c3
   try clear c3b0
   try clear c3b1
   try clear c3b2
   obtain ⟨x5_1,rfl,HA,HK1,⟨m1,rfl⟩⟩:=hrel
   cases gk with
   |zero=>exact absurd HA.out (by simp[nepentheref01_SameBytes.l0])
   |succ k1=>
    have H:=HA.out
    clear HA
    simp only[nepentheref01_SameBytes.l0] at H
    by_cases c4:x5_1<(l0.length:Int)
    ·rw[if_pos c4] at H
     have c4b0:decide (x5_1<(l0.length:Int))=true:=decide_eq_true c4
     clear c4
     by_cases c5:0≤x5_1
     ·rw[if_pos c5] at H
      have c5b0:decide (0≤x5_1)=true:=decide_eq_true c5
      clear c5
      by_cases c6:x5_1<(l1.length:Int)
      ·rw[if_pos c6] at H
       have c6b0:decide (x5_1<(l1.length:Int))=true:=decide_eq_true c6
       clear c6
       by_cases c7:(rd l0 x5_1)=(rd l1 x5_1)
       ·rw[if_pos c7] at H
        have c7b0:((rd l0 x5_1) == (rd l1 x5_1))=true:=beq_iff_eq.mpr c7
        have c7b1:((rd l0 x5_1) != (rd l1 x5_1))=false:=bne_eq_false_iff_eq.mpr c7
        clear c7
        have H':=Aside0.mk H
        clear H
        have p171:0≤(x5_1:Int):=of_decide_eq_true (by first | (with_reducible assumption) | assumption)
        have q171:x5_1<(l0.length:Int):=of_decide_eq_true (by first | (with_reducible assumption) | assumption)
        obtain ⟨ad171,e171,hx171_0⟩:=Kd.at_int HR0.out x5_1 p171 q171
        cases e171
        replace p171:=eq_true p171
        replace q171:=eq_true q171
        have p172:0≤(x5_1:Int):=of_decide_eq_true (by first | (with_reducible assumption) | assumption)
        have q172:x5_1<(l1.length:Int):=of_decide_eq_true (by first | (with_reducible assumption) | assumption)
        obtain ⟨ad172,e172,hx172_0⟩:=Kd.at_int HR1.out x5_1 p172 q172
        cases e172
        replace p172:=eq_true p172
        replace q172:=eq_true q172
        go_wp2
        repeat (go_quiet (fail);try go_wp2)
        go_roundg k1
        case measure=>have:=HK1.out;omega
        case rel=>exact ⟨(wrap64 (x5_1+1)),(by first | rfl | (simp;done) | (simp[*];done)),H',⟨by have:=HK1.out;omega⟩,by repeat (first | exact Drawn0.refl _ | apply Drawn0.step)⟩
       rw[if_neg c7] at H
       have c7b0:((rd l0 x5_1) == (rd l1 x5_1))=false:=beq_eq_false_iff_ne.mpr c7
       have c7b1:((rd l0 x5_1) != (rd l1 x5_1))=true:=bne_iff_ne.mpr c7
       obtain rfl:=Option.some.inj H
       have p171:0≤(x5_1:Int):=of_decide_eq_true (by first | (with_reducible assumption) | assumption)
       have q171:x5_1<(l0.length:Int):=of_decide_eq_true (by first | (with_reducible assumption) | assumption)
       obtain ⟨ad171,e171,hx171_0⟩:=Kd.at_int HR0.out x5_1 p171 q171
       cases e171
       replace p171:=eq_true p171
       replace q171:=eq_true q171
       have p172:0≤(x5_1:Int):=of_decide_eq_true (by first | (with_reducible assumption) | assumption)
       have q172:x5_1<(l1.length:Int):=of_decide_eq_true (by first | (with_reducible assumption) | assumption)
       obtain ⟨ad172,e172,hx172_0⟩:=Kd.at_int HR1.out x5_1 p172 q172
       cases e172
       replace p172:=eq_true p172
       replace q172:=eq_true q172
       go_wp2
       repeat (go_quiet (fail);try go_wp2)
       go_ret
       exact ⟨by first | rfl | (simp;done) | (simp[*];done),by repeat (first | exact Drawn0.refl _ | apply Drawn0.step)⟩
      rw[if_neg c6] at H
      exact absurd H (by simp)
     rw[if_neg c5] at H
     exact absurd H (by simp)
    rw[if_neg c4] at H
    have c4b0:decide (x5_1<(l0.length:Int))=false:=decide_eq_false c4
    clear c4
    obtain rfl:=Option.some.inj H
    go_wp2
    repeat (go_quiet (fail);try go_wp2)
    go_ret
    exact ⟨by first | rfl | (simp;done) | (simp[*];done),by repeat (first | exact Drawn0.refl _ | apply Drawn0.step)⟩
 rw[if_neg c3] at H
 have c3b0:((l0.length:Int) == (l1.length:Int))=false:=beq_eq_false_iff_ne.mpr c3
 have c3b1:((l0.length:Int) != (l1.length:Int))=true:=bne_iff_ne.mpr c3
 have c3b2:(l0.length == l1.length)=false:=by first | simpa using c3 | (simp at c3 ⊢;omega)
 obtain rfl:=Option.some.inj H
 go_enter Try.func20,Try.ntmps20
 go_wp2
 repeat (go_quiet (fail);try go_wp2)
 go_ret
 exact ⟨by first | rfl | (simp;done) | (simp[*];done),by repeat (first | exact Drawn0.refl _ | apply Drawn0.step)⟩
def nepentheref17_Same.f (k:Nat) (a0_0:Bool) (a0_1:Int) (a0_2:Int) (a0_3:Int) (l0_4:List Int) (a1_0:Bool) (a1_1:Int) (a1_2:Int) (a1_3:Int) (l1_4:List Int):Option (Bool):=if (a0_0 == a1_0)=true then (if a0_1=a1_1 then (if a0_2=a1_2 then (if a0_3=a1_3 then ((nepentheref01_SameBytes.f k l0_4 l1_4).bind fun t175=>(some t175)) else (some false)) else (some false)) else (some false)) else (some false)
set_option maxHeartbeats 8000000 in
set_option maxRecDepth 100000 in
theorem nepentheref17_Same.calls (k:Nat) (a0_0:Bool) (a0_1:Int) (a0_2:Int) (a0_3:Int) (A0_4:Option Addr) (c0_4:Nat) (l0_4:List Int) (a1_0:Bool) (a1_1:Int) (a1_2:Int) (a1_3:Int) (A1_4:Option Addr) (c1_4:Nat) (l1_4:List Int) (r:Bool) (w:World) (hr0_4:Kd.C (Kd.int .u8) w A0_4 l0_4.length l0_4) (hc0_4:l0_4.length≤c0_4) (hr1_4:Kd.C (Kd.int .u8) w A1_4 l1_4.length l1_4) (hc1_4:l1_4.length≤c1_4) (h:nepentheref17_Same.f k a0_0 a0_1 a0_2 a0_3 l0_4 a1_0 a1_1 a1_2 a1_3 l1_4=some r) :
  Calls Try.prog 47 #[.agg #[.bool a0_0,.int .i64 a0_1,.int .u64 a0_2,.int .u64 a0_3,.slice A0_4 l0_4.length c0_4],.agg #[.bool a1_0,.int .i64 a1_1,.int .u64 a1_2,.int .u64 a1_3,.slice A1_4 l1_4.length c1_4]] w fun e w'=>e=.returned (.bool r)∧Below w.heap.size w w':=by
 have hu36:=Try.underlying36
 have HR0_4:=Aside0.mk hr0_4
 have HC0_4:=Aside0.mk hc0_4
 clear hr0_4 hc0_4
 have HR1_4:=Aside0.mk hr1_4
 have HC1_4:=Aside0.mk hc1_4
 clear hr1_4 hc1_4
 have HB:=Aside0.mk (Below.refl w.heap.size w)
 have H:(if (a0_0 == a1_0)=true then (if a0_1=a1_1 then (if a0_2=a1_2 then (if a0_3=a1_3 then ((nepentheref01_SameBytes.f k l0_4 l1_4).bind fun t175=>(some t175)) else (some false)) else (some false)) else (some false)) else (some false))=some r:=h
 clear h
 by_cases c3:(a0_0 == a1_0)=true
 ·rw[if_pos c3] at H
  have c3b0:(a0_0 == a1_0)=true:=c3
  (try (have c3b1:decide (a0_0=a1_0)=true:=by simpa using c3))
  (try (have c3b2:(a0_0 == a1_0)=true:=by simpa using c3))
  clear c3
  by_cases c4:a0_1=a1_1
  ·rw[if_pos c4] at H
   have c4b0:(a0_1 == a1_1)=true:=beq_iff_eq.mpr c4
   have c4b1:(a0_1 != a1_1)=false:=bne_eq_false_iff_eq.mpr c4
   clear c4
   by_cases c5:a0_2=a1_2
   ·rw[if_pos c5] at H
    have c5b0:(a0_2 == a1_2)=true:=beq_iff_eq.mpr c5
    have c5b1:(a0_2 != a1_2)=false:=bne_eq_false_iff_eq.mpr c5
    clear c5
    by_cases c6:a0_3=a1_3
    ·rw[if_pos c6] at H
     have c6b0:(a0_3 == a1_3)=true:=beq_iff_eq.mpr c6
     have c6b1:(a0_3 != a1_3)=false:=bne_eq_false_iff_eq.mpr c6
     clear c6
     replace H:=Option.bind_eq_some_iff.mp H
     obtain ⟨t175,A70,H⟩:=H
     replace H:(some t175)=some r:=H
     have A7:=Aside0.mk A70
     clear A70
     obtain rfl:=Option.some.inj H
     go_enter Try.func47,Try.ntmps47
     go_wp2_with (first | ((with_reducible refine gate_dst (N:=2) rfl ?_);refine box_event ?hg (N:=2) ?hd (cs:=#[.bool a0_0,.int .i64 a0_1,.int .u64 a0_2,.int .u64 a0_3,.slice A0_4 l0_4.length c0_4]) (t:=36) ?hr ?_;(case hd=>rfl);(case hg=>rfl);(case hr=>first | (go_simp;done) | (go_simp;rfl) | (go_simp;simp only[IntKind.wrap_u32,Int.emod_add_emod,Int.add_emod_emod]));intro gb173 hg w8 hbox hb;have n0_:=Aside0.mk (below_step (by repeat (first | (with_reducible first | exact HB.out | apply below_alloc | apply pw_below_drewN | apply below_drew1) | exact HB.out)) hb);have n1_:=Aside0.mk (hbox);have n2_:=Aside0.mk ((by rw[hg];exact (below_size (by repeat (first | (with_reducible first | exact HB.out | apply below_alloc | apply pw_below_drewN | apply below_drew1) | exact HB.out))):w.heap.size≤gb173));have n3_:=Aside0.mk ((by rw[hg];exact (below_size (by repeat (first | (with_reducible first | exact HB.out | apply below_alloc | apply pw_below_drewN | apply below_drew1) | exact HB.out))):w.heap.size≤gb173));clear HB;have HB:=n0_;have BK173:=n1_;have GW173:=n2_;have GE173:=n3_;clear n0_ n1_ n2_ n3_;clear hb hbox hg) | ((with_reducible refine gate_dst (N:=3) rfl ?_);refine box_event ?hg (N:=3) ?hd (cs:=#[.bool a1_0,.int .i64 a1_1,.int .u64 a1_2,.int .u64 a1_3,.slice A1_4 l1_4.length c1_4]) (t:=36) ?hr ?_;(case hd=>rfl);(case hg=>rfl);(case hr=>first | (go_simp;done) | (go_simp;rfl) | (go_simp;simp only[IntKind.wrap_u32,Int.emod_add_emod,Int.add_emod_emod]));intro gb174 hg w9 hbox hb;have n0_:=Aside0.mk (blk_below (g:=gb173) (o:=.cells #[.bool a0_0,.int .i64 a0_1,.int .u64 a0_2,.int .u64 a0_3,.slice A0_4 l0_4.length c0_4] 36 (0,0)) (by (with_reducible repeat (first | refine blk_drewN ?_ _ | refine blk_drew ?_ | refine blk_alloc ?_ _));exact BK173.out) hb);have n1_:=Aside0.mk (below_step (by repeat (first | (with_reducible first | exact HB.out | apply below_alloc | apply pw_below_drewN | apply below_drew1 | refine below_set ?_ GE173.out) | exact HB.out)) hb);have n2_:=Aside0.mk (hbox);have n3_:=Aside0.mk ((by rw[hg];exact (below_size (by repeat (first | (with_reducible first | exact HB.out | apply below_alloc | apply pw_below_drewN | apply below_drew1 | refine below_set ?_ GE173.out) | exact HB.out))):w.heap.size≤gb174));have n4_:=Aside0.mk ((by rw[hg];exact (below_size (by repeat (first | (with_reducible first | exact HB.out | apply below_alloc | apply pw_below_drewN | apply below_drew1 | refine below_set ?_ GE173.out) | exact HB.out))):w.heap.size≤gb174));have n5_:=Aside0.mk ((by rw[hg];exact Nat.ne_of_lt (blk_lt (g:=gb173) (o:=.cells #[.bool a0_0,.int .i64 a0_1,.int .u64 a0_2,.int .u64 a0_3,.slice A0_4 l0_4.length c0_4] 36 (0,0)) (by (with_reducible repeat (first | refine blk_drewN ?_ _ | refine blk_drew ?_ | refine blk_alloc ?_ _));exact BK173.out)):gb173≠gb174));have n6_:=Aside0.mk ((by rw[hg];exact Nat.ne_of_gt (blk_lt (g:=gb173) (o:=.cells #[.bool a0_0,.int .i64 a0_1,.int .u64 a0_2,.int .u64 a0_3,.slice A0_4 l0_4.length c0_4] 36 (0,0)) (by (with_reducible repeat (first | refine blk_drewN ?_ _ | refine blk_drew ?_ | refine blk_alloc ?_ _));exact BK173.out)):gb174≠gb173));clear BK173;clear HB;have BK173:=n0_;have HB:=n1_;have BK174:=n2_;have GW174:=n3_;have GE174:=n4_;have NB173_174:=n5_;have NB174_173:=n6_;clear n0_ n1_ n2_ n3_ n4_ n5_ n6_;clear hb hbox hg;have hnb10:=NB173_174.out;have hnc10:=NB174_173.out;have hcz11_0:w9.cell? ⟨gb173,0,none⟩=some (.bool a0_0):=(blk_cell BK173.out 0).trans rfl;have hcz11_1:w9.cell? ⟨gb173,1,none⟩=some (.int .i64 a0_1):=(blk_cell BK173.out 1).trans rfl;have hcz11_2:w9.cell? ⟨gb173,2,none⟩=some (.int .u64 a0_2):=(blk_cell BK173.out 2).trans rfl;have hcz11_3:w9.cell? ⟨gb173,3,none⟩=some (.int .u64 a0_3):=(blk_cell BK173.out 3).trans rfl;have hcz11_4:w9.cell? ⟨gb173,4,none⟩=some (.slice A0_4 l0_4.length c0_4):=(blk_cell BK173.out 4).trans rfl;have hfz11_0:=blk_frozen BK173.out 0;have hfz11_1:=blk_frozen BK173.out 1;have hfz11_2:=blk_frozen BK173.out 2;have hfz11_3:=blk_frozen BK173.out 3;have hfz11_4:=blk_frozen BK173.out 4;have hcz12_0:w9.cell? ⟨gb174,0,none⟩=some (.bool a1_0):=(blk_cell BK174.out 0).trans rfl;have hcz12_1:w9.cell? ⟨gb174,1,none⟩=some (.int .i64 a1_1):=(blk_cell BK174.out 1).trans rfl;have hcz12_2:w9.cell? ⟨gb174,2,none⟩=some (.int .u64 a1_2):=(blk_cell BK174.out 2).trans rfl;have hcz12_3:w9.cell? ⟨gb174,3,none⟩=some (.int .u64 a1_3):=(blk_cell BK174.out 3).trans rfl;have hcz12_4:w9.cell? ⟨gb174,4,none⟩=some (.slice A1_4 l1_4.length c1_4):=(blk_cell BK174.out 4).trans rfl;have hfz12_0:=blk_frozen BK174.out 0;have hfz12_1:=blk_frozen BK174.out 1;have hfz12_2:=blk_frozen BK174.out 2;have hfz12_3:=blk_frozen BK174.out 3;have hfz12_4:=blk_frozen BK174.out 4) | (go_at_call 20;(with_reducible refine (nepentheref01_SameBytes.calls k _ _ l0_4 _ _ l1_4 t175 _ ?side1 ?side2 ?side3 ?side4 A7.out).mono ?_);(case side1=>repeat (first | exact (Kd.C_below HR0_4.out HB.out) | (with_reducible refine Kd.C_alloc ?_ _) | (with_reducible refine Kd.C_drewN ?_ _) | (with_reducible refine Kd.C_drew ?_)));(case side2=>exact HC0_4.out);(case side3=>repeat (first | exact (Kd.C_below HR1_4.out HB.out) | (with_reducible refine Kd.C_alloc ?_ _) | (with_reducible refine Kd.C_drewN ?_ _) | (with_reducible refine Kd.C_drew ?_)));(case side4=>exact HC1_4.out);rintro e w' ⟨rfl,⟨nd,rfl⟩⟩))
     go_ret
     exact ⟨by first | rfl | (simp[errW_none,errW_some] <;> rfl) | (simp[*,errW_none,errW_some] <;> rfl),by repeat (first | (with_reducible first | exact HB.out | apply below_alloc | apply pw_below_drewN | apply below_drew1 | refine below_set ?_ GE173.out | refine below_set ?_ GE174.out) | exact HB.out)⟩
    rw[if_neg c6] at H
    have c6b0:(a0_3 == a1_3)=false:=beq_eq_false_iff_ne.mpr c6
    have c6b1:(a0_3 != a1_3)=true:=bne_iff_ne.mpr c6
    obtain rfl:=Option.some.inj H
    go_enter Try.func47,Try.ntmps47
    go_wp2_with (first | ((with_reducible refine gate_dst (N:=2) rfl ?_);refine box_event ?hg (N:=2) ?hd (cs:=#[.bool a0_0,.int .i64 a0_1,.int .u64 a0_2,.int .u64 a0_3,.slice A0_4 l0_4.length c0_4]) (t:=36) ?hr ?_;(case hd=>rfl);(case hg=>rfl);(case hr=>first | (go_simp;done) | (go_simp;rfl) | (go_simp;simp only[IntKind.wrap_u32,Int.emod_add_emod,Int.add_emod_emod]));intro gb173 hg w13 hbox hb;have n0_:=Aside0.mk (below_step (by repeat (first | (with_reducible first | exact HB.out | apply below_alloc | apply pw_below_drewN | apply below_drew1) | exact HB.out)) hb);have n1_:=Aside0.mk (hbox);have n2_:=Aside0.mk ((by rw[hg];exact (below_size (by repeat (first | (with_reducible first | exact HB.out | apply below_alloc | apply pw_below_drewN | apply below_drew1) | exact HB.out))):w.heap.size≤gb173));have n3_:=Aside0.mk ((by rw[hg];exact (below_size (by repeat (first | (with_reducible first | exact HB.out | apply below_alloc | apply pw_below_drewN | apply below_drew1) | exact HB.out))):w.heap.size≤gb173));clear HB;have HB:=n0_;have BK173:=n1_;have GW173:=n2_;have GE173:=n3_;clear n0_ n1_ n2_ n3_;clear hb hbox hg) | ((with_reducible refine gate_dst (N:=3) rfl ?_);refine box_event ?hg (N:=3) ?hd (cs:=#[.bool a1_0,.int .i64 a1_1,.int .u64 a1_2,.int .u64 a1_3,.slice A1_4 l1_4.length c1_4]) (t:=36) ?hr ?_;(case hd=>rfl);(case hg=>rfl);(case hr=>first | (go_simp;done) | (go_simp;rfl) | (go_simp;simp only[IntKind.wrap_u32,Int.emod_add_emod,Int.add_emod_emod]));intro gb174 hg w14 hbox hb;have n0_:=Aside0.mk (blk_below (g:=gb173) (o:=.cells #[.bool a0_0,.int .i64 a0_1,.int .u64 a0_2,.int .u64 a0_3,.slice A0_4 l0_4.length c0_4] 36 (0,0)) (by (with_reducible repeat (first | refine blk_drewN ?_ _ | refine blk_drew ?_ | refine blk_alloc ?_ _));exact BK173.out) hb);have n1_:=Aside0.mk (below_step (by repeat (first | (with_reducible first | exact HB.out | apply below_alloc | apply pw_below_drewN | apply below_drew1 | refine below_set ?_ GE173.out) | exact HB.out)) hb);have n2_:=Aside0.mk (hbox);have n3_:=Aside0.mk ((by rw[hg];exact (below_size (by repeat (first | (with_reducible first | exact HB.out | apply below_alloc | apply pw_below_drewN | apply below_drew1 | refine below_set ?_ GE173.out) | exact HB.out))):w.heap.size≤gb174));have n4_:=Aside0.mk ((by rw[hg];exact (below_size (by repeat (first | (with_reducible first | exact HB.out | apply below_alloc | apply pw_below_drewN | apply below_drew1 | refine below_set ?_ GE173.out) | exact HB.out))):w.heap.size≤gb174));have n5_:=Aside0.mk ((by rw[hg];exact Nat.ne_of_lt (blk_lt (g:=gb173) (o:=.cells #[.bool a0_0,.int .i64 a0_1,.int .u64 a0_2,.int .u64 a0_3,.slice A0_4 l0_4.length c0_4] 36 (0,0)) (by (with_reducible repeat (first | refine blk_drewN ?_ _ | refine blk_drew ?_ | refine blk_alloc ?_ _));exact BK173.out)):gb173≠gb174));have n6_:=Aside0.mk ((by rw[hg];exact Nat.ne_of_gt (blk_lt (g:=gb173) (o:=.cells #[.bool a0_0,.int .i64 a0_1,.int .u64 a0_2,.int .u64 a0_3,.slice A0_4 l0_4.length c0_4] 36 (0,0)) (by (with_reducible repeat (first | refine blk_drewN ?_ _ | refine blk_drew ?_ | refine blk_alloc ?_ _));exact BK173.out)):gb174≠gb173));clear BK173;clear HB;have BK173:=n0_;have HB:=n1_;have BK174:=n2_;have GW174:=n3_;have GE174:=n4_;have NB173_174:=n5_;have NB174_173:=n6_;clear n0_ n1_ n2_ n3_ n4_ n5_ n6_;clear hb hbox hg;have hnb15:=NB173_174.out;have hnc15:=NB174_173.out;have hcz16_0:w14.cell? ⟨gb173,0,none⟩=some (.bool a0_0):=(blk_cell BK173.out 0).trans rfl;have hcz16_1:w14.cell? ⟨gb173,1,none⟩=some (.int .i64 a0_1):=(blk_cell BK173.out 1).trans rfl;have hcz16_2:w14.cell? ⟨gb173,2,none⟩=some (.int .u64 a0_2):=(blk_cell BK173.out 2).trans rfl;have hcz16_3:w14.cell? ⟨gb173,3,none⟩=some (.int .u64 a0_3):=(blk_cell BK173.out 3).trans rfl;have hcz16_4:w14.cell? ⟨gb173,4,none⟩=some (.slice A0_4 l0_4.length c0_4):=(blk_cell BK173.out 4).trans rfl;have hfz16_0:=blk_frozen BK173.out 0;have hfz16_1:=blk_frozen BK173.out 1;have hfz16_2:=blk_frozen BK173.out 2;have hfz16_3:=blk_frozen BK173.out 3;have hfz16_4:=blk_frozen BK173.out 4;have hcz17_0:w14.cell? ⟨gb174,0,none⟩=some (.bool a1_0):=(blk_cell BK174.out 0).trans rfl;have hcz17_1:w14.cell? ⟨gb174,1,none⟩=some (.int .i64 a1_1):=(blk_cell BK174.out 1).trans rfl;have hcz17_2:w14.cell? ⟨gb174,2,none⟩=some (.int .u64 a1_2):=(blk_cell BK174.out 2).trans rfl;have hcz17_3:w14.cell? ⟨gb174,3,none⟩=some (.int .u64 a1_3):=(blk_cell BK174.out 3).trans rfl;have hcz17_4:w14.cell? ⟨gb174,4,none⟩=some (.slice A1_4 l1_4.length c1_4):=(blk_cell BK174.out 4).trans rfl;have hfz17_0:=blk_frozen BK174.out 0;have hfz17_1:=blk_frozen BK174.out 1;have hfz17_2:=blk_frozen BK174.out 2;have hfz17_3:=blk_frozen BK174.out 3;have hfz17_4:=blk_frozen BK174.out 4))
    go_ret
    exact ⟨by first | rfl | (simp[errW_none,errW_some] <;> rfl) | (simp[*,errW_none,errW_some] <;> rfl),by repeat (first | (with_reducible first | exact HB.out | apply below_alloc | apply pw_below_drewN | apply below_drew1 | refine below_set ?_ GE173.out | refine below_set ?_ GE174.out) | exact HB.out)⟩
   rw[if_neg c5] at H
   have c5b0:(a0_2 == a1_2)=false:=beq_eq_false_iff_ne.mpr c5
   have c5b1:(a0_2 != a1_2)=true:=bne_iff_ne.mpr c5
   obtain rfl:=Option.some.inj H
   go_enter Try.func47,Try.ntmps47
   go_wp2_with (first | ((with_reducible refine gate_dst (N:=2) rfl ?_);refine box_event ?hg (N:=2) ?hd (cs:=#[.bool a0_0,.int .i64 a0_1,.int .u64 a0_2,.int .u64 a0_3,.slice A0_4 l0_4.length c0_4]) (t:=36) ?hr ?_;(case hd=>rfl);(case hg=>rfl);(case hr=>first | (go_simp;done) | (go_simp;rfl) | (go_simp;simp only[IntKind.wrap_u32,Int.emod_add_emod,Int.add_emod_emod]));intro gb173 hg w18 hbox hb;have n0_:=Aside0.mk (below_step (by repeat (first | (with_reducible first | exact HB.out | apply below_alloc | apply pw_below_drewN | apply below_drew1) | exact HB.out)) hb);have n1_:=Aside0.mk (hbox);have n2_:=Aside0.mk ((by rw[hg];exact (below_size (by repeat (first | (with_reducible first | exact HB.out | apply below_alloc | apply pw_below_drewN | apply below_drew1) | exact HB.out))):w.heap.size≤gb173));have n3_:=Aside0.mk ((by rw[hg];exact (below_size (by repeat (first | (with_reducible first | exact HB.out | apply below_alloc | apply pw_below_drewN | apply below_drew1) | exact HB.out))):w.heap.size≤gb173));clear HB;have HB:=n0_;have BK173:=n1_;have GW173:=n2_;have GE173:=n3_;clear n0_ n1_ n2_ n3_;clear hb hbox hg) | ((with_reducible refine gate_dst (N:=3) rfl ?_);refine box_event ?hg (N:=3) ?hd (cs:=#[.bool a1_0,.int .i64 a1_1,.int .u64 a1_2,.int .u64 a1_3,.slice A1_4 l1_4.length c1_4]) (t:=36) ?hr ?_;(case hd=>rfl);(case hg=>rfl);(case hr=>first | (go_simp;done) | (go_simp;rfl) | (go_simp;simp only[IntKind.wrap_u32,Int.emod_add_emod,Int.add_emod_emod]));intro gb174 hg w19 hbox hb;have n0_:=Aside0.mk (blk_below (g:=gb173) (o:=.cells #[.bool a0_0,.int .i64 a0_1,.int .u64 a0_2,.int .u64 a0_3,.slice A0_4 l0_4.length c0_4] 36 (0,0)) (by (with_reducible repeat (first | refine blk_drewN ?_ _ | refine blk_drew ?_ | refine blk_alloc ?_ _));exact BK173.out) hb);have n1_:=Aside0.mk (below_step (by repeat (first | (with_reducible first | exact HB.out | apply below_alloc | apply pw_below_drewN | apply below_drew1 | refine below_set ?_ GE173.out) | exact HB.out)) hb);have n2_:=Aside0.mk (hbox);have n3_:=Aside0.mk ((by rw[hg];exact (below_size (by repeat (first | (with_reducible first | exact HB.out | apply below_alloc | apply pw_below_drewN | apply below_drew1 | refine below_set ?_ GE173.out) | exact HB.out))):w.heap.size≤gb174));have n4_:=Aside0.mk ((by rw[hg];exact (below_size (by repeat (first | (with_reducible first | exact HB.out | apply below_alloc | apply pw_below_drewN | apply below_drew1 | refine below_set ?_ GE173.out) | exact HB.out))):w.heap.size≤gb174));have n5_:=Aside0.mk ((by rw[hg];exact Nat.ne_of_lt (blk_lt (g:=gb173) (o:=.cells #[.bool a0_0,.int .i64 a0_1,.int .u64 a0_2,.int .u64 a0_3,.slice A0_4 l0_4.length c0_4] 36 (0,0)) (by (with_reducible repeat (first | refine blk_drewN ?_ _ | refine blk_drew ?_ | refine blk_alloc ?_ _));exact BK173.out)):gb173≠gb174));have n6_:=Aside0.mk ((by rw[hg];exact Nat.ne_of_gt (blk_lt (g:=gb173) (o:=.cells #[.bool a0_0,.int .i64 a0_1,.int .u64 a0_2,.int .u64 a0_3,.slice A0_4 l0_4.length c0_4] 36 (0,0)) (by (with_reducible repeat (first | refine blk_drewN ?_ _ | refine blk_drew ?_ | refine blk_alloc ?_ _));exact BK173.out)):gb174≠gb173));clear BK173;clear HB;have BK173:=n0_;have HB:=n1_;have BK174:=n2_;have GW174:=n3_;have GE174:=n4_;have NB173_174:=n5_;have NB174_173:=n6_;clear n0_ n1_ n2_ n3_ n4_ n5_ n6_;clear hb hbox hg;have hnb20:=NB173_174.out;have hnc20:=NB174_173.out;have hcz21_0:w19.cell? ⟨gb173,0,none⟩=some (.bool a0_0):=(blk_cell BK173.out 0).trans rfl;have hcz21_1:w19.cell? ⟨gb173,1,none⟩=some (.int .i64 a0_1):=(blk_cell BK173.out 1).trans rfl;have hcz21_2:w19.cell? ⟨gb173,2,none⟩=some (.int .u64 a0_2):=(blk_cell BK173.out 2).trans rfl;have hcz21_3:w19.cell? ⟨gb173,3,none⟩=some (.int .u64 a0_3):=(blk_cell BK173.out 3).trans rfl;have hcz21_4:w19.cell? ⟨gb173,4,none⟩=some (.slice A0_4 l0_4.length c0_4):=(blk_cell BK173.out 4).trans rfl;have hfz21_0:=blk_frozen BK173.out 0;have hfz21_1:=blk_frozen BK173.out 1;have hfz21_2:=blk_frozen BK173.out 2;have hfz21_3:=blk_frozen BK173.out 3;have hfz21_4:=blk_frozen BK173.out 4;have hcz22_0:w19.cell? ⟨gb174,0,none⟩=some (.bool a1_0):=(blk_cell BK174.out 0).trans rfl;have hcz22_1:w19.cell? ⟨gb174,1,none⟩=some (.int .i64 a1_1):=(blk_cell BK174.out 1).trans rfl;have hcz22_2:w19.cell? ⟨gb174,2,none⟩=some (.int .u64 a1_2):=(blk_cell BK174.out 2).trans rfl;have hcz22_3:w19.cell? ⟨gb174,3,none⟩=some (.int .u64 a1_3):=(blk_cell BK174.out 3).trans rfl;have hcz22_4:w19.cell? ⟨gb174,4,none⟩=some (.slice A1_4 l1_4.length c1_4):=(blk_cell BK174.out 4).trans rfl;have hfz22_0:=blk_frozen BK174.out 0;have hfz22_1:=blk_frozen BK174.out 1;have hfz22_2:=blk_frozen BK174.out 2;have hfz22_3:=blk_frozen BK174.out 3;have hfz22_4:=blk_frozen BK174.out 4))
   go_ret
   exact ⟨by first | rfl | (simp[errW_none,errW_some] <;> rfl) | (simp[*,errW_none,errW_some] <;> rfl),by repeat (first | (with_reducible first | exact HB.out | apply below_alloc | apply pw_below_drewN | apply below_drew1 | refine below_set ?_ GE173.out | refine below_set ?_ GE174.out) | exact HB.out)⟩
  rw[if_neg c4] at H
  have c4b0:(a0_1 == a1_1)=false:=beq_eq_false_iff_ne.mpr c4
  have c4b1:(a0_1 != a1_1)=true:=bne_iff_ne.mpr c4
  obtain rfl:=Option.some.inj H
  go_enter Try.func47,Try.ntmps47
  go_wp2_with (first | ((with_reducible refine gate_dst (N:=2) rfl ?_);refine box_event ?hg (N:=2) ?hd (cs:=#[.bool a0_0,.int .i64 a0_1,.int .u64 a0_2,.int .u64 a0_3,.slice A0_4 l0_4.length c0_4]) (t:=36) ?hr ?_;(case hd=>rfl);(case hg=>rfl);(case hr=>first | (go_simp;done) | (go_simp;rfl) | (go_simp;simp only[IntKind.wrap_u32,Int.emod_add_emod,Int.add_emod_emod]));intro gb173 hg w23 hbox hb;have n0_:=Aside0.mk (below_step (by repeat (first | (with_reducible first | exact HB.out | apply below_alloc | apply pw_below_drewN | apply below_drew1) | exact HB.out)) hb);have n1_:=Aside0.mk (hbox);have n2_:=Aside0.mk ((by rw[hg];exact (below_size (by repeat (first | (with_reducible first | exact HB.out | apply below_alloc | apply pw_below_drewN | apply below_drew1) | exact HB.out))):w.heap.size≤gb173));have n3_:=Aside0.mk ((by rw[hg];exact (below_size (by repeat (first | (with_reducible first | exact HB.out | apply below_alloc | apply pw_below_drewN | apply below_drew1) | exact HB.out))):w.heap.size≤gb173));clear HB;have HB:=n0_;have BK173:=n1_;have GW173:=n2_;have GE173:=n3_;clear n0_ n1_ n2_ n3_;clear hb hbox hg) | ((with_reducible refine gate_dst (N:=3) rfl ?_);refine box_event ?hg (N:=3) ?hd (cs:=#[.bool a1_0,.int .i64 a1_1,.int .u64 a1_2,.int .u64 a1_3,.slice A1_4 l1_4.length c1_4]) (t:=36) ?hr ?_;(case hd=>rfl);(case hg=>rfl);(case hr=>first | (go_simp;done) | (go_simp;rfl) | (go_simp;simp only[IntKind.wrap_u32,Int.emod_add_emod,Int.add_emod_emod]));intro gb174 hg w24 hbox hb;have n0_:=Aside0.mk (blk_below (g:=gb173) (o:=.cells #[.bool a0_0,.int .i64 a0_1,.int .u64 a0_2,.int .u64 a0_3,.slice A0_4 l0_4.length c0_4] 36 (0,0)) (by (with_reducible repeat (first | refine blk_drewN ?_ _ | refine blk_drew ?_ | refine blk_alloc ?_ _));exact BK173.out) hb);have n1_:=Aside0.mk (below_step (by repeat (first | (with_reducible first | exact HB.out | apply below_alloc | apply pw_below_drewN | apply below_drew1 | refine below_set ?_ GE173.out) | exact HB.out)) hb);have n2_:=Aside0.mk (hbox);have n3_:=Aside0.mk ((by rw[hg];exact (below_size (by repeat (first | (with_reducible first | exact HB.out | apply below_alloc | apply pw_below_drewN | apply below_drew1 | refine below_set ?_ GE173.out) | exact HB.out))):w.heap.size≤gb174));have n4_:=Aside0.mk ((by rw[hg];exact (below_size (by repeat (first | (with_reducible first | exact HB.out | apply below_alloc | apply pw_below_drewN | apply below_drew1 | refine below_set ?_ GE173.out) | exact HB.out))):w.heap.size≤gb174));have n5_:=Aside0.mk ((by rw[hg];exact Nat.ne_of_lt (blk_lt (g:=gb173) (o:=.cells #[.bool a0_0,.int .i64 a0_1,.int .u64 a0_2,.int .u64 a0_3,.slice A0_4 l0_4.length c0_4] 36 (0,0)) (by (with_reducible repeat (first | refine blk_drewN ?_ _ | refine blk_drew ?_ | refine blk_alloc ?_ _));exact BK173.out)):gb173≠gb174));have n6_:=Aside0.mk ((by rw[hg];exact Nat.ne_of_gt (blk_lt (g:=gb173) (o:=.cells #[.bool a0_0,.int .i64 a0_1,.int .u64 a0_2,.int .u64 a0_3,.slice A0_4 l0_4.length c0_4] 36 (0,0)) (by (with_reducible repeat (first | refine blk_drewN ?_ _ | refine blk_drew ?_ | refine blk_alloc ?_ _));exact BK173.out)):gb174≠gb173));clear BK173;clear HB;have BK173:=n0_;have HB:=n1_;have BK174:=n2_;have GW174:=n3_;have GE174:=n4_;have NB173_174:=n5_;have NB174_173:=n6_;clear n0_ n1_ n2_ n3_ n4_ n5_ n6_;clear hb hbox hg;have hnb25:=NB173_174.out;have hnc25:=NB174_173.out;have hcz26_0:w24.cell? ⟨gb173,0,none⟩=some (.bool a0_0):=(blk_cell BK173.out 0).trans rfl;have hcz26_1:w24.cell? ⟨gb173,1,none⟩=some (.int .i64 a0_1):=(blk_cell BK173.out 1).trans rfl;have hcz26_2:w24.cell? ⟨gb173,2,none⟩=some (.int .u64 a0_2):=(blk_cell BK173.out 2).trans rfl;have hcz26_3:w24.cell? ⟨gb173,3,none⟩=some (.int .u64 a0_3):=(blk_cell BK173.out 3).trans rfl;have hcz26_4:w24.cell? ⟨gb173,4,none⟩=some (.slice A0_4 l0_4.length c0_4):=(blk_cell BK173.out 4).trans rfl;have hfz26_0:=blk_frozen BK173.out 0;have hfz26_1:=blk_frozen BK173.out 1;have hfz26_2:=blk_frozen BK173.out 2;have hfz26_3:=blk_frozen BK173.out 3;have hfz26_4:=blk_frozen BK173.out 4;have hcz27_0:w24.cell? ⟨gb174,0,none⟩=some (.bool a1_0):=(blk_cell BK174.out 0).trans rfl;have hcz27_1:w24.cell? ⟨gb174,1,none⟩=some (.int .i64 a1_1):=(blk_cell BK174.out 1).trans rfl;have hcz27_2:w24.cell? ⟨gb174,2,none⟩=some (.int .u64 a1_2):=(blk_cell BK174.out 2).trans rfl;have hcz27_3:w24.cell? ⟨gb174,3,none⟩=some (.int .u64 a1_3):=(blk_cell BK174.out 3).trans rfl;have hcz27_4:w24.cell? ⟨gb174,4,none⟩=some (.slice A1_4 l1_4.length c1_4):=(blk_cell BK174.out 4).trans rfl;have hfz27_0:=blk_frozen BK174.out 0;have hfz27_1:=blk_frozen BK174.out 1;have hfz27_2:=blk_frozen BK174.out 2;have hfz27_3:=blk_frozen BK174.out 3;have hfz27_4:=blk_frozen BK174.out 4))
  go_ret
  exact ⟨by first | rfl | (simp[errW_none,errW_some] <;> rfl) | (simp[*,errW_none,errW_some] <;> rfl),by repeat (first | (with_reducible first | exact HB.out | apply below_alloc | apply pw_below_drewN | apply below_drew1 | refine below_set ?_ GE173.out | refine below_set ?_ GE174.out) | exact HB.out)⟩
 rw[if_neg c3] at H
 have c3b0:(a0_0 == a1_0)=false:=by simpa using c3
 (try (have c3b1:decide (a0_0=a1_0)=false:=by simpa using c3))
 (try (have c3b2:(a0_0 == a1_0)=false:=by simpa using c3))
 (try (have c3b3 : ¬ (a0_0=a1_0):=by simpa using c3))
 clear c3
 obtain rfl:=Option.some.inj H
 go_enter Try.func47,Try.ntmps47
 go_wp2_with (first | ((with_reducible refine gate_dst (N:=2) rfl ?_);refine box_event ?hg (N:=2) ?hd (cs:=#[.bool a0_0,.int .i64 a0_1,.int .u64 a0_2,.int .u64 a0_3,.slice A0_4 l0_4.length c0_4]) (t:=36) ?hr ?_;(case hd=>rfl);(case hg=>rfl);(case hr=>first | (go_simp;done) | (go_simp;rfl) | (go_simp;simp only[IntKind.wrap_u32,Int.emod_add_emod,Int.add_emod_emod]));intro gb173 hg w28 hbox hb;have n0_:=Aside0.mk (below_step (by repeat (first | (with_reducible first | exact HB.out | apply below_alloc | apply pw_below_drewN | apply below_drew1) | exact HB.out)) hb);have n1_:=Aside0.mk (hbox);have n2_:=Aside0.mk ((by rw[hg];exact (below_size (by repeat (first | (with_reducible first | exact HB.out | apply below_alloc | apply pw_below_drewN | apply below_drew1) | exact HB.out))):w.heap.size≤gb173));have n3_:=Aside0.mk ((by rw[hg];exact (below_size (by repeat (first | (with_reducible first | exact HB.out | apply below_alloc | apply pw_below_drewN | apply below_drew1) | exact HB.out))):w.heap.size≤gb173));clear HB;have HB:=n0_;have BK173:=n1_;have GW173:=n2_;have GE173:=n3_;clear n0_ n1_ n2_ n3_;clear hb hbox hg) | ((with_reducible refine gate_dst (N:=3) rfl ?_);refine box_event ?hg (N:=3) ?hd (cs:=#[.bool a1_0,.int .i64 a1_1,.int .u64 a1_2,.int .u64 a1_3,.slice A1_4 l1_4.length c1_4]) (t:=36) ?hr ?_;(case hd=>rfl);(case hg=>rfl);(case hr=>first | (go_simp;done) | (go_simp;rfl) | (go_simp;simp only[IntKind.wrap_u32,Int.emod_add_emod,Int.add_emod_emod]));intro gb174 hg w29 hbox hb;have n0_:=Aside0.mk (blk_below (g:=gb173) (o:=.cells #[.bool a0_0,.int .i64 a0_1,.int .u64 a0_2,.int .u64 a0_3,.slice A0_4 l0_4.length c0_4] 36 (0,0)) (by (with_reducible repeat (first | refine blk_drewN ?_ _ | refine blk_drew ?_ | refine blk_alloc ?_ _));exact BK173.out) hb);have n1_:=Aside0.mk (below_step (by repeat (first | (with_reducible first | exact HB.out | apply below_alloc | apply pw_below_drewN | apply below_drew1 | refine below_set ?_ GE173.out) | exact HB.out)) hb);have n2_:=Aside0.mk (hbox);have n3_:=Aside0.mk ((by rw[hg];exact (below_size (by repeat (first | (with_reducible first | exact HB.out | apply below_alloc | apply pw_below_drewN | apply below_drew1 | refine below_set ?_ GE173.out) | exact HB.out))):w.heap.size≤gb174));have n4_:=Aside0.mk ((by rw[hg];exact (below_size (by repeat (first | (with_reducible first | exact HB.out | apply below_alloc | apply pw_below_drewN | apply below_drew1 | refine below_set ?_ GE173.out) | exact HB.out))):w.heap.size≤gb174));have n5_:=Aside0.mk ((by rw[hg];exact Nat.ne_of_lt (blk_lt (g:=gb173) (o:=.cells #[.bool a0_0,.int .i64 a0_1,.int .u64 a0_2,.int .u64 a0_3,.slice A0_4 l0_4.length c0_4] 36 (0,0)) (by (with_reducible repeat (first | refine blk_drewN ?_ _ | refine blk_drew ?_ | refine blk_alloc ?_ _));exact BK173.out)):gb173≠gb174));have n6_:=Aside0.mk ((by rw[hg];exact Nat.ne_of_gt (blk_lt (g:=gb173) (o:=.cells #[.bool a0_0,.int .i64 a0_1,.int .u64 a0_2,.int .u64 a0_3,.slice A0_4 l0_4.length c0_4] 36 (0,0)) (by (with_reducible repeat (first | refine blk_drewN ?_ _ | refine blk_drew ?_ | refine blk_alloc ?_ _));exact BK173.out)):gb174≠gb173));clear BK173;clear HB;have BK173:=n0_;have HB:=n1_;have BK174:=n2_;have GW174:=n3_;have GE174:=n4_;have NB173_174:=n5_;have NB174_173:=n6_;clear n0_ n1_ n2_ n3_ n4_ n5_ n6_;clear hb hbox hg;have hnb30:=NB173_174.out;have hnc30:=NB174_173.out;have hcz31_0:w29.cell? ⟨gb173,0,none⟩=some (.bool a0_0):=(blk_cell BK173.out 0).trans rfl;have hcz31_1:w29.cell? ⟨gb173,1,none⟩=some (.int .i64 a0_1):=(blk_cell BK173.out 1).trans rfl;have hcz31_2:w29.cell? ⟨gb173,2,none⟩=some (.int .u64 a0_2):=(blk_cell BK173.out 2).trans rfl;have hcz31_3:w29.cell? ⟨gb173,3,none⟩=some (.int .u64 a0_3):=(blk_cell BK173.out 3).trans rfl;have hcz31_4:w29.cell? ⟨gb173,4,none⟩=some (.slice A0_4 l0_4.length c0_4):=(blk_cell BK173.out 4).trans rfl;have hfz31_0:=blk_frozen BK173.out 0;have hfz31_1:=blk_frozen BK173.out 1;have hfz31_2:=blk_frozen BK173.out 2;have hfz31_3:=blk_frozen BK173.out 3;have hfz31_4:=blk_frozen BK173.out 4;have hcz32_0:w29.cell? ⟨gb174,0,none⟩=some (.bool a1_0):=(blk_cell BK174.out 0).trans rfl;have hcz32_1:w29.cell? ⟨gb174,1,none⟩=some (.int .i64 a1_1):=(blk_cell BK174.out 1).trans rfl;have hcz32_2:w29.cell? ⟨gb174,2,none⟩=some (.int .u64 a1_2):=(blk_cell BK174.out 2).trans rfl;have hcz32_3:w29.cell? ⟨gb174,3,none⟩=some (.int .u64 a1_3):=(blk_cell BK174.out 3).trans rfl;have hcz32_4:w29.cell? ⟨gb174,4,none⟩=some (.slice A1_4 l1_4.length c1_4):=(blk_cell BK174.out 4).trans rfl;have hfz32_0:=blk_frozen BK174.out 0;have hfz32_1:=blk_frozen BK174.out 1;have hfz32_2:=blk_frozen BK174.out 2;have hfz32_3:=blk_frozen BK174.out 3;have hfz32_4:=blk_frozen BK174.out 4))
 go_ret
 exact ⟨by first | rfl | (simp[errW_none,errW_some] <;> rfl) | (simp[*,errW_none,errW_some] <;> rfl),by repeat (first | (with_reducible first | exact HB.out | apply below_alloc | apply pw_below_drewN | apply below_drew1 | refine below_set ?_ GE173.out | refine below_set ?_ GE174.out) | exact HB.out)⟩
def nepentheref01_SameInts.l0:Nat→List Int→List Int→Int→Option (Bool)
 |0,_,_,_=>none
 |k+1,x0,x1,x5=>if x5<(x0.length:Int) then (if 0≤x5 then (if x5<(x1.length:Int) then (if (rd x0 x5)=(rd x1 x5) then (nepentheref01_SameInts.l0 k x0 x1 (wrap64 (x5+1))) else (some false)) else (none)) else (none)) else (some true)
def nepentheref01_SameInts.f (k:Nat) (l0:List Int) (l1:List Int):Option (Bool):=if (l0.length:Int)=(l1.length:Int) then (nepentheref01_SameInts.l0 k l0 l1 0) else (some false)
set_option maxHeartbeats 8000000 in
set_option maxRecDepth 100000 in
theorem nepentheref01_SameInts.calls (k:Nat) (A0:Option Addr) (c0:Nat) (l0:List Int) (A1:Option Addr) (c1:Nat) (l1:List Int) (r:Bool) (w:World) (hr0:Kd.C (Kd.int .i64) w A0 l0.length l0) (hc0:l0.length≤c0) (hr1:Kd.C (Kd.int .i64) w A1 l1.length l1) (hc1:l1.length≤c1) (h:nepentheref01_SameInts.f k l0 l1=some r) :
  Calls Try.prog 17 #[.slice A0 l0.length c0,.slice A1 l1.length c1] w fun e w'=>e=.returned (.bool r)∧Drawn0 w w':=by
 have HR0:=Aside0.mk hr0
 have HC0:=Aside0.mk hc0
 clear hr0 hc0
 have HR1:=Aside0.mk hr1
 have HC1:=Aside0.mk hc1
 clear hr1 hc1
 have H:(if (l0.length:Int)=(l1.length:Int) then (nepentheref01_SameInts.l0 k l0 l1 0) else (some false))=some r:=h
 clear h
 by_cases c3:(l0.length:Int)=(l1.length:Int)
 ·rw[if_pos c3] at H
  have c3b0:((l0.length:Int) == (l1.length:Int))=true:=beq_iff_eq.mpr c3
  have c3b1:((l0.length:Int) != (l1.length:Int))=false:=bne_eq_false_iff_eq.mpr c3
  have c3b2:(l0.length == l1.length)=true:=by first | simpa using c3 | (simp at c3 ⊢;omega)
  clear c3
  have H':=Aside0.mk H
  clear H
  go_enter Try.func17,Try.ntmps17
  go_wp2
  repeat (go_quiet (fail);try go_wp2)
  go_loopg [5] k (fun kq v5 w'=>∃ (x5_1:Int),v5=.int .i64 x5_1∧Aside0 (nepentheref01_SameInts.l0 kq l0 l1 x5_1=some r)∧Aside0 (kq≤k)∧Drawn0 w w')
  case atStart=>exact ⟨(0),(by first | rfl | (simp;done) | (simp[*];done)),H',⟨Nat.le_refl _⟩,by repeat (first | exact Drawn0.refl _ | apply Drawn0.step)⟩
  case round=>
   clear H'
   try clear c1
   try clear p2
   try clear c3
   try clear c3b0
   try clear c3b1
   try clear c3b2
   obtain ⟨x5_1,rfl,HA,HK1,⟨m1,rfl⟩⟩:=hrel
   cases gk with
   |zero=>exact absurd HA.out (by simp[nepentheref01_SameInts.l0])
   |succ k1=>
    have H:=HA.out
    clear HA
    simp only[nepentheref01_SameInts.l0] at H
    by_cases c4:x5_1<(l0.length:Int)
    ·rw[if_pos c4] at H
     have c4b0:decide (x5_1<(l0.length:Int))=true:=decide_eq_true c4
     clear c4
     by_cases c5:0≤x5_1
     ·rw[if_pos c5] at H
      have c5b0:decide (0≤x5_1)=true:=decide_eq_true c5
      clear c5
      by_cases c6:x5_1<(l1.length:Int)
      ·rw[if_pos c6] at H
       have c6b0:decide (x5_1<(l1.length:Int))=true:=decide_eq_true c6
       clear c6
       by_cases c7:(rd l0 x5_1)=(rd l1 x5_1)
       ·rw[if_pos c7] at H
        have c7b0:((rd l0 x5_1) == (rd l1 x5_1))=true:=beq_iff_eq.mpr c7
        have c7b1:((rd l0 x5_1) != (rd l1 x5_1))=false:=bne_eq_false_iff_eq.mpr c7
        clear c7
        have H':=Aside0.mk H
        clear H
        have p176:0≤(x5_1:Int):=of_decide_eq_true (by first | (with_reducible assumption) | assumption)
        have q176:x5_1<(l0.length:Int):=of_decide_eq_true (by first | (with_reducible assumption) | assumption)
        obtain ⟨ad176,e176,hx176_0⟩:=Kd.at_int HR0.out x5_1 p176 q176
        cases e176
        replace p176:=eq_true p176
        replace q176:=eq_true q176
        have p177:0≤(x5_1:Int):=of_decide_eq_true (by first | (with_reducible assumption) | assumption)
        have q177:x5_1<(l1.length:Int):=of_decide_eq_true (by first | (with_reducible assumption) | assumption)
        obtain ⟨ad177,e177,hx177_0⟩:=Kd.at_int HR1.out x5_1 p177 q177
        cases e177
        replace p177:=eq_true p177
        replace q177:=eq_true q177
        go_wp2
        repeat (go_quiet (fail);try go_wp2)
        go_roundg k1
        case measure=>have:=HK1.out;omega
        case rel=>exact ⟨(wrap64 (x5_1+1)),(by first | rfl | (simp;done) | (simp[*];done)),H',⟨by have:=HK1.out;omega⟩,by repeat (first | exact Drawn0.refl _ | apply Drawn0.step)⟩
       rw[if_neg c7] at H
       have c7b0:((rd l0 x5_1) == (rd l1 x5_1))=false:=beq_eq_false_iff_ne.mpr c7
       have c7b1:((rd l0 x5_1) != (rd l1 x5_1))=true:=bne_iff_ne.mpr c7
       obtain rfl:=Option.some.inj H
       have p176:0≤(x5_1:Int):=of_decide_eq_true (by first | (with_reducible assumption) | assumption)
       have q176:x5_1<(l0.length:Int):=of_decide_eq_true (by first | (with_reducible assumption) | assumption)
       obtain ⟨ad176,e176,hx176_0⟩:=Kd.at_int HR0.out x5_1 p176 q176
       cases e176
       replace p176:=eq_true p176
       replace q176:=eq_true q176
       have p177:0≤(x5_1:Int):=of_decide_eq_true (by first | (with_reducible assumption) | assumption)
       have q177:x5_1<(l1.length:Int):=of_decide_eq_true (by first | (with_reducible assumption) | assumption)
       obtain ⟨ad177,e177,hx177_0⟩:=Kd.at_int HR1.out x5_1 p177 q177
       cases e177
       replace p177:=eq_true p177
       replace q177:=eq_true q177
       go_wp2
       repeat (go_quiet (fail);try go_wp2)
       go_ret
       exact ⟨by first | rfl | (simp;done) | (simp[*];done),by repeat (first | exact Drawn0.refl _ | apply Drawn0.step)⟩
      rw[if_neg c6] at H
      exact absurd H (by simp)
     rw[if_neg c5] at H
     exact absurd H (by simp)
    rw[if_neg c4] at H
    have c4b0:decide (x5_1<(l0.length:Int))=false:=decide_eq_false c4
    clear c4
    obtain rfl:=Option.some.inj H
    go_wp2
    repeat (go_quiet (fail);try go_wp2)
    go_ret
    exact ⟨by first | rfl | (simp;done) | (simp[*];done),by repeat (first | exact Drawn0.refl _ | apply Drawn0.step)⟩
 rw[if_neg c3] at H
 have c3b0:((l0.length:Int) == (l1.length:Int))=false:=beq_eq_false_iff_ne.mpr c3
 have c3b1:((l0.length:Int) != (l1.length:Int))=true:=bne_iff_ne.mpr c3
 have c3b2:(l0.length == l1.length)=false:=by first | simpa using c3 | (simp at c3 ⊢;omega)
 obtain rfl:=Option.some.inj H
 go_enter Try.func17,Try.ntmps17
 go_wp2
 repeat (go_quiet (fail);try go_wp2)
 go_ret
 exact ⟨by first | rfl | (simp;done) | (simp[*];done),by repeat (first | exact Drawn0.refl _ | apply Drawn0.step)⟩
def octet_Same.l0:Nat→List Int→List Int→Int→Int→Int→Option (Bool)
 |0,_,_,_,_,_=>none
 |k+1,x0,x1,x5,x13,x14=>if x14<x13 then (if 0≤x14 then (if x14<(x0.length:Int) then (if x14<(x1.length:Int) then (octet_Same.l0 k x0 x1 (Go.bits .or .u8 x5 (Go.bits .xor .u8 (rd x0 x14) (rd x1 x14))) x13 (wrap64 (x14+1))) else (none)) else (none)) else (none)) else (some (x5 == 0))
def octet_Same.f (k:Nat) (l0:List Int) (l1:List Int):Option (Bool):=if (l0.length:Int)=(l1.length:Int) then (octet_Same.l0 k l0 l1 0 (l0.length:Int) 0) else (some false)
set_option maxHeartbeats 8000000 in
set_option maxRecDepth 100000 in
theorem octet_Same.calls (k:Nat) (A0:Option Addr) (c0:Nat) (l0:List Int) (A1:Option Addr) (c1:Nat) (l1:List Int) (r:Bool) (w:World) (hr0:Kd.C (Kd.int .u8) w A0 l0.length l0) (hc0:l0.length≤c0) (hr1:Kd.C (Kd.int .u8) w A1 l1.length l1) (hc1:l1.length≤c1) (h:octet_Same.f k l0 l1=some r) :
  Calls Try.prog 48 #[.slice A0 l0.length c0,.slice A1 l1.length c1] w fun e w'=>e=.returned (.bool r)∧Drawn0 w w':=by
 have HR0:=Aside0.mk hr0
 have HC0:=Aside0.mk hc0
 clear hr0 hc0
 have HR1:=Aside0.mk hr1
 have HC1:=Aside0.mk hc1
 clear hr1 hc1
 have H:(if (l0.length:Int)=(l1.length:Int) then (octet_Same.l0 k l0 l1 0 (l0.length:Int) 0) else (some false))=some r:=h
 clear h
 by_cases c3:(l0.length:Int)=(l1.length:Int)
 ·rw[if_pos c3] at H
  have c3b0:((l0.length:Int) == (l1.length:Int))=true:=beq_iff_eq.mpr c3
  have c3b1:((l0.length:Int) != (l1.length:Int))=false:=bne_eq_false_iff_eq.mpr c3
  have c3b2:(l0.length == l1.length)=true:=by first | simpa using c3 | (simp at c3 ⊢;omega)
  clear c3
  have H':=Aside0.mk H
  clear H
  go_enter Try.func48,Try.ntmps48
  go_wp2
  repeat (go_quiet (fail);try go_wp2)
  go_loopg [5,14] k (fun kq v5 v14 w'=>∃ (x5_1:Int) (x14_1:Int),v5=.int .u8 x5_1∧v14=.int .i64 x14_1∧Aside0 (octet_Same.l0 kq l0 l1 x5_1 (l0.length:Int) x14_1=some r)∧Aside0 (kq≤k)∧Drawn0 w w')
  case atStart=>exact ⟨(0),(0),(by first | rfl | (simp;done) | (simp[*];done)),(by first | rfl | (simp;done) | (simp[*];done)),H',⟨Nat.le_refl _⟩,by repeat (first | exact Drawn0.refl _ | apply Drawn0.step)⟩
  case round=>
   clear H'
   try clear c1
   try clear p2
   try clear c3
   try clear c3b0
   try clear c3b1
   try clear c3b2
   obtain ⟨x5_1,x14_1,rfl,rfl,HA,HK1,⟨m1,rfl⟩⟩:=hrel
   cases gk with
   |zero=>exact absurd HA.out (by simp[octet_Same.l0])
   |succ k1=>
    have H:=HA.out
    clear HA
    simp only[octet_Same.l0] at H
    by_cases c4:x14_1<(l0.length:Int)
    ·rw[if_pos c4] at H
     have c4b0:decide (x14_1<(l0.length:Int))=true:=decide_eq_true c4
     clear c4
     by_cases c5:0≤x14_1
     ·rw[if_pos c5] at H
      have c5b0:decide (0≤x14_1)=true:=decide_eq_true c5
      clear c5
      by_cases c6:x14_1<(l0.length:Int)
      ·rw[if_pos c6] at H
       have c6b0:decide (x14_1<(l0.length:Int))=true:=decide_eq_true c6
       clear c6
       by_cases c7:x14_1<(l1.length:Int)
       ·rw[if_pos c7] at H
        have c7b0:decide (x14_1<(l1.length:Int))=true:=decide_eq_true c7
        clear c7
        have H':=Aside0.mk H
        clear H
        have p178:0≤(x14_1:Int):=of_decide_eq_true (by first | (with_reducible assumption) | assumption)
        have q178:x14_1<(l0.length:Int):=of_decide_eq_true (by first | (with_reducible assumption) | assumption)
        obtain ⟨ad178,e178,hx178_0⟩:=Kd.at_int HR0.out x14_1 p178 q178
        cases e178
        replace p178:=eq_true p178
        replace q178:=eq_true q178
        have p179:0≤(x14_1:Int):=of_decide_eq_true (by first | (with_reducible assumption) | assumption)
        have q179:x14_1<(l1.length:Int):=of_decide_eq_true (by first | (with_reducible assumption) | assumption)
        obtain ⟨ad179,e179,hx179_0⟩:=Kd.at_int HR1.out x14_1 p179 q179
        cases e179
        replace p179:=eq_true p179
        replace q179:=eq_true q179
        go_wp2
        repeat (go_quiet (fail);try go_wp2)
        go_roundg k1
        case measure=>have:=HK1.out;omega
        case rel=>exact ⟨(Go.bits .or .u8 x5_1 (Go.bits .xor .u8 (rd l0 x14_1) (rd l1 x14_1))),(wrap64 (x14_1+1)),(by first | rfl | (simp;done) | (simp[*];done)),(by first | rfl | (simp;done) | (simp[*];done)),H',⟨by have:=HK1.out;omega⟩,by repeat (first | exact Drawn0.refl _ | apply Drawn0.step)⟩
       rw[if_neg c7] at H
       exact absurd H (by simp)
      rw[if_neg c6] at H
      exact absurd H (by simp)
     rw[if_neg c5] at H
     exact absurd H (by simp)
    rw[if_neg c4] at H
    have c4b0:decide (x14_1<(l0.length:Int))=false:=decide_eq_false c4
    clear c4
    obtain rfl:=Option.some.inj H
    go_wp2
    repeat (go_quiet (fail);try go_wp2)
    go_ret
    exact ⟨by first | rfl | (simp;done) | (simp[*];done),by repeat (first | exact Drawn0.refl _ | apply Drawn0.step)⟩
 rw[if_neg c3] at H
 have c3b0:((l0.length:Int) == (l1.length:Int))=false:=beq_eq_false_iff_ne.mpr c3
 have c3b1:((l0.length:Int) != (l1.length:Int))=true:=bne_iff_ne.mpr c3
 have c3b2:(l0.length == l1.length)=false:=by first | simpa using c3 | (simp at c3 ⊢;omega)
 obtain rfl:=Option.some.inj H
 go_enter Try.func48,Try.ntmps48
 go_wp2
 repeat (go_quiet (fail);try go_wp2)
 go_ret
 exact ⟨by first | rfl | (simp;done) | (simp[*];done),by repeat (first | exact Drawn0.refl _ | apply Drawn0.step)⟩
def nepentheref01_Back.l0:Nat→List Int→List Int→Int→Option (List Int)
 |0,_,_,_=>none
 |k+1,x0,x3,x4=>if x4≥0 then (if 0≤x4 then (if x4<(x0.length:Int) then (if x3.length<140737488355328 then (nepentheref01_Back.l0 k x0 (x3 ++ [rd x0 x4]) (wrap64 (x4 - 1))) else (none)) else (none)) else (none)) else (some x3)
def nepentheref01_Back.f (k:Nat) (l0:List Int):Option (List Int):=nepentheref01_Back.l0 k l0 (([]:List Int)) (wrap64 ((l0.length:Int) - 1))
set_option maxHeartbeats 8000000 in
set_option maxRecDepth 100000 in
theorem nepentheref01_Back.calls (k:Nat) (A0:Option Addr) (c0:Nat) (l0:List Int) (r:List Int) (w:World) (hr0:Kd.C (Kd.int .u8) w A0 l0.length l0) (hc0:l0.length≤c0) (h:nepentheref01_Back.f k l0=some r) :
  Calls Try.prog 72 #[.slice A0 l0.length c0] w fun e w'=>∃ v0_:Value,e=.returned (v0_)∧Kd.R (Kd.int .u8) 5 w' w.heap.size (fun _=>True) v0_ r∧Below w.heap.size w w':=by
 have HR0:=Aside0.mk hr0
 have HC0:=Aside0.mk hc0
 clear hr0 hc0
 have HB:=Aside0.mk (Below.refl w.heap.size w)
 have H:(nepentheref01_Back.l0 k l0 (([]:List Int)) (wrap64 ((l0.length:Int) - 1)))=some r:=h
 clear h
 obtain ⟨y202,hy202⟩:∃ y_:List Int,y_=(([]:List Int)):=⟨_,rfl⟩
 replace H:(nepentheref01_Back.l0 k l0 y202 (wrap64 ((l0.length:Int) - 1)))=some r:=by first | (rw[hy202];with_reducible exact H) | (have H2_:=(Option.bind_some _ _).symm.trans H;rw[hy202];with_reducible exact H2_) | (have H2_:=(Option.bind_some _ _).symm.trans H;with_reducible exact H2_) | with_reducible exact H | (rw[hy202];exact H) | exact H
 have Ny202:=Aside0.mk hy202
 clear hy202
 have H':=Aside0.mk H
 clear H
 go_enter Try.func72,Try.ntmps72
 go_wp2_with (first | ((with_reducible refine gate_dst (N:=5) rfl ?_);refine Kd.R_lit (Kd.int .u8) _ 5 ?hg (N:=5) ?hd (xs:=([]:List Int)) (inner:=[]) (ok:=fun _=>True) (okp:=fun _=>True) ?hr ?hp (fun _ hk=>hk) trivial (Below.refl _ _) (Nat.le_refl _) (by simp) ?_;(case hd=>rfl);(case hg=>rfl);(case hr=>first | (go_simp;done) | (go_simp;rfl) | (go_simp;simp only[IntKind.wrap_u32,Int.emod_add_emod,Int.add_emod_emod]));(case hp=>exact (Reps.none _ _));intro v203 w2 ho3 hb hg_ hnew_;clear hg_ hnew_;(first | rw[← Ny202.out] at ho3 | (simp only[Int.reduceToNat] at ho3;rw[← Ny202.out] at ho3));have n0_:=Aside0.mk (Kd.R_lower ho3 (below_size (by repeat (first | (with_reducible first | exact HB.out | apply below_alloc | apply pw_below_drewN | apply below_drew1) | exact HB.out))));have n1_:=Aside0.mk (below_step (by repeat (first | (with_reducible first | exact HB.out | apply below_alloc | apply pw_below_drewN | apply below_drew1) | exact HB.out)) hb);clear HB;have HO204:=n0_;have HB:=n1_;clear n0_ n1_;clear hb ho3))
 go_loopg [3,4] k (fun kq v3 v4 w'=>∃ (x3_1:List Int) (x4_1:Int),v4=.int .i64 x4_1∧Aside0 (nepentheref01_Back.l0 kq l0 x3_1 x4_1=some r)∧Aside0 (kq≤k)∧Aside0 (Kd.R (Kd.int .u8) 5 w' w.heap.size (fun _=>True) v3 x3_1)∧Aside0 (Below w.heap.size w w'))
 case atStart=>exact ⟨(y202),(wrap64 ((l0.length:Int) - 1)),(by first | rfl | (simp;done) | (simp[*];done)),H',⟨Nat.le_refl _⟩,⟨by (with_reducible repeat (first | apply Kd.R_alloc | apply Kd.R_drewN | apply Kd.R_drew));exact HO204.out⟩,⟨by repeat (first | (with_reducible first | exact HB.out | apply below_alloc | apply pw_below_drewN | apply below_drew1) | exact HB.out)⟩⟩
 case round=>
  clear H'
  try clear p2
  obtain ⟨x3_1,x4_1,rfl,HA,HK1,HO_3,HB⟩:=hrel
  cases gk with
  |zero=>exact absurd HA.out (by simp[nepentheref01_Back.l0])
  |succ k1=>
   have H:=HA.out
   clear HA
   simp only[nepentheref01_Back.l0] at H
   by_cases c4:x4_1≥0
   ·rw[if_pos c4] at H
    have c4b0:decide (0≤x4_1)=true:=decide_eq_true c4
    clear c4
    by_cases c5:0≤x4_1
    ·rw[if_pos c5] at H
     have c5b0:decide (0≤x4_1)=true:=decide_eq_true c5
     clear c5
     by_cases c6:x4_1<(l0.length:Int)
     ·rw[if_pos c6] at H
      have c6b0:decide (x4_1<(l0.length:Int))=true:=decide_eq_true c6
      clear c6
      by_cases c7:x3_1.length<140737488355328
      ·rw[if_pos c7] at H
       have LMc7:=Aside0.mk c7
       clear c7
       obtain ⟨y206,hy206⟩:∃ y_:List Int,y_=(x3_1 ++ [rd l0 x4_1]):=⟨_,rfl⟩
       replace H:(nepentheref01_Back.l0 k1 l0 y206 (wrap64 (x4_1 - 1)))=some r:=by first | (rw[hy206];with_reducible exact H) | (have H2_:=(Option.bind_some _ _).symm.trans H;rw[hy206];with_reducible exact H2_) | (have H2_:=(Option.bind_some _ _).symm.trans H;with_reducible exact H2_) | with_reducible exact H | (rw[hy206];exact H) | exact H
       have Ny206:=Aside0.mk hy206
       clear hy206
       have H':=Aside0.mk H
       clear H
       have p205:0≤(x4_1:Int):=of_decide_eq_true (by first | (with_reducible assumption) | assumption)
       have q205:x4_1<(l0.length:Int):=of_decide_eq_true (by first | (with_reducible assumption) | assumption)
       obtain ⟨ad205,e205,hx205_0⟩:=Kd.at_int HR0.out x4_1 p205 q205
       cases e205
       replace hx205_0:=(HB.out.cell (World.block_lt_of_cell? w _ hx205_0)).trans hx205_0
       replace p205:=eq_true p205
       replace q205:=eq_true q205
       go_wp2_with (first | ((with_reducible refine gate_builtin (b:=.append) (xs:=#[.tmp 13,.tmp 18]) rfl ?_);at_builtin;refine Kd.R_append (Kd.int .u8) (w0:=w) w.heap.size rfl (.tmp 13) (.tmp 18) 23 5 (.int .u8 0) 1 rfl Try.underlying23 info5 rfl (by decide) (by omega) u3 x3_1 (rd l0 x4_1) [.int .u8 (rd l0 x4_1)] (fun _=>True) (fun _=>False) rfl rfl ?aP (fun _ hk=>hk.elim) ?aF ?aO ?aB ?aS ?aL ?_;(case aP=>exact rfl);(case aB=>exact (by repeat (first | (with_reducible first | exact HB.out | apply below_alloc | apply pw_below_drewN | apply below_drew1) | exact HB.out)));(case aF=>exact (fun _ _=>trivial));(case aO=>exact (by (with_reducible repeat (first | apply Kd.R_alloc | apply Kd.R_drewN | apply Kd.R_drew));exact HO_3.out));(case aS=>exact (below_size (by repeat (first | (with_reducible first | exact HB.out | apply below_alloc | apply pw_below_drewN | apply below_drew1) | exact HB.out))));(case aL=>have:=LMc7.out;omega);intro v207 w8 ho hb hg hat;rw[← Ny206.out] at ho;have n0_:=Aside0.mk (hb);have n1_:=Aside0.mk (ho);clear HB;clear HO_3;have HB:=n0_;have HO208:=n1_;clear n0_ n1_;clear ho hb hg hat))
       go_roundg k1
       case measure=>have:=HK1.out;omega
       case rel=>exact ⟨(y206),(wrap64 (x4_1 - 1)),(by first | rfl | (simp;done) | (simp[*];done)),H',⟨by have:=HK1.out;omega⟩,⟨by (with_reducible repeat (first | apply Kd.R_alloc | apply Kd.R_drewN | apply Kd.R_drew));exact HO208.out⟩,⟨by repeat (first | (with_reducible first | exact HB.out | apply below_alloc | apply pw_below_drewN | apply below_drew1) | exact HB.out)⟩⟩
      rw[if_neg c7] at H
      exact absurd H (by simp)
     rw[if_neg c6] at H
     exact absurd H (by simp)
    rw[if_neg c5] at H
    exact absurd H (by simp)
   rw[if_neg c4] at H
   have c4b0:decide (0≤x4_1)=false:=decide_eq_false c4
   clear c4
   obtain rfl:=Option.some.inj H
   go_wp2
   go_ret
   exact ⟨_,by first | rfl | (simp[errW_none,errW_some] <;> rfl) | (simp[*,errW_none,errW_some] <;> rfl),by (with_reducible repeat (first | apply Kd.R_alloc | apply Kd.R_drewN | apply Kd.R_drew));exact HO_3.out,by repeat (first | (with_reducible first | exact HB.out | apply below_alloc | apply pw_below_drewN | apply below_drew1) | exact HB.out)⟩
end Go.Proofs.Ytbajioiiaamokaa.QB
