/- QBx11, pruned (slim.py). -/
import Derived.Test.YtbajioiiaamokaaZF4
import Derived.Test.YtbajioiiaamokaaZF6
import Derived.Test.YtbajioiiaamokaaZF7
import Derived.Test.YtbajioiiaamokaaZF10
namespace Go.Proofs.Ytbajioiiaamokaa.Own
end Go.Proofs.Ytbajioiiaamokaa.Own
namespace Go.Proofs.Ytbajioiiaamokaa.QB
open Go.RowKit Go.Proofs.Ytbajioiiaamokaa.Own Go.Proofs.YtbajioiiaamokaaW.PrintWords Go.Proofs.YtbajioiiaamokaaW.PrintLast Go.Proofs.YtbajioiiaamokaaW.PrintMore
attribute [local go_sem] max2_int min2_int max_two min_two max_three min_three max_four min_four
set_option linter.unusedVariables false
set_option linter.unusedSimpArgs false
def nepentheref04_Right.f (l0:List Int) (a1:Int):Option (Bool):=if (l0.length:Int)≤64 then (if a1≥1 then (some (decide (a1≤1000))) else (some false)) else (some false)
set_option maxHeartbeats 8000000 in
set_option maxRecDepth 100000 in
theorem nepentheref04_Right.calls (A0:Option Addr) (c0:Nat) (l0:List Int) (a1:Int) (r:Bool) (w:World) (hr0:Kd.C (Kd.int .u8) w A0 l0.length l0) (hc0:l0.length≤c0) (h:nepentheref04_Right.f l0 a1=some r) :
  Calls Try.prog 37 #[.slice A0 l0.length c0,.int .i64 a1] w fun e w'=>e=.returned (.bool r)∧Drawn0 w w':=by
 have HR0:=Aside0.mk hr0
 have HC0:=Aside0.mk hc0
 clear hr0 hc0
 have H:(if (l0.length:Int)≤64 then (if a1≥1 then (some (decide (a1≤1000))) else (some false)) else (some false))=some r:=h
 clear h
 by_cases c3:(l0.length:Int)≤64
 ·rw[if_pos c3] at H
  have c3b0:decide ((l0.length:Int)≤64)=true:=decide_eq_true c3
  have c3b1:decide (l0.length≤64)=true:=decide_eq_true (by omega)
  clear c3
  by_cases c4:a1≥1
  ·rw[if_pos c4] at H
   have c4b0:decide (1≤a1)=true:=decide_eq_true c4
   clear c4
   obtain rfl:=Option.some.inj H
   go_enter Try.func37,Try.ntmps37
   go_wp2
   go_ret
   exact ⟨by first | rfl | (simp;done) | (simp[*];done),by repeat (first | exact Drawn0.refl _ | apply Drawn0.step)⟩
  rw[if_neg c4] at H
  have c4b0:decide (1≤a1)=false:=decide_eq_false c4
  clear c4
  obtain rfl:=Option.some.inj H
  go_enter Try.func37,Try.ntmps37
  go_wp2
  go_ret
  exact ⟨by first | rfl | (simp;done) | (simp[*];done),by repeat (first | exact Drawn0.refl _ | apply Drawn0.step)⟩
 rw[if_neg c3] at H
 have c3b0:decide ((l0.length:Int)≤64)=false:=decide_eq_false c3
 have c3b1:decide (l0.length≤64)=false:=decide_eq_false (by omega)
 clear c3
 obtain rfl:=Option.some.inj H
 go_enter Try.func37,Try.ntmps37
 go_wp2
 go_ret
 exact ⟨by first | rfl | (simp;done) | (simp[*];done),by repeat (first | exact Drawn0.refl _ | apply Drawn0.step)⟩
def nepentheref04_Block.l0:Nat→List Int→Int→List Int→List Int→Int→Option (List Int)
 |0,_,_,_,_,_=>none
 |k+1,x0,x2,x9,x10,x11=>if x11<x2 then ((nepentheref03_Tag.f k x0 x9).bind fun t577=>((nepentheref01_Xor.f k x10 t577).bind fun t580=>(nepentheref04_Block.l0 k x0 x2 t577 t580 (wrap64 (x11+1))))) else (some x10)
def nepentheref04_Block.f (k:Nat) (l0:List Int) (l1:List Int) (a2:Int) (a3:Int):Option (List Int):=(some (([]:List Int):List Int)).bind fun y562=>(if y562.length+l1.length<140737488355328 then ((some (y562++l1:List Int)).bind fun y565=>((nepentheref01_Big.f k (IntKind.u64.wrap (a3)) 4).bind fun t568=>(if y565.length+t568.length<140737488355328 then ((nepentheref03_Tag.f k l0 (y565++t568)).bind fun t574=>(nepentheref04_Block.l0 k l0 a2 t574 t574 1)) else (none)))) else (none))
set_option maxHeartbeats 8000000 in
set_option maxRecDepth 100000 in
theorem nepentheref04_Block.calls (k:Nat) (A0:Option Addr) (c0:Nat) (l0:List Int) (A1:Option Addr) (c1:Nat) (l1:List Int) (a2:Int) (a3:Int) (r:List Int) (w:World) (hr0:Kd.C (Kd.int .u8) w A0 l0.length l0) (hc0:l0.length≤c0) (hr1:Kd.C (Kd.int .u8) w A1 l1.length l1) (hc1:l1.length≤c1) (h:nepentheref04_Block.f k l0 l1 a2 a3=some r) :
  Calls Try.prog 69 #[.slice A0 l0.length c0,.slice A1 l1.length c1,.int .i64 a2,.int .i64 a3] w fun e w'=>∃ v0_:Value,e=.returned (v0_)∧Kd.R (Kd.int .u8) 5 w' w.heap.size (fun _=>True) v0_ r∧Below w.heap.size w w':=by
 have HR0:=Aside0.mk hr0
 have HC0:=Aside0.mk hc0
 clear hr0 hc0
 have HR1:=Aside0.mk hr1
 have HC1:=Aside0.mk hc1
 clear hr1 hc1
 have HB:=Aside0.mk (Below.refl w.heap.size w)
 have H:((some (([]:List Int):List Int)).bind fun y562=>(if y562.length+l1.length<140737488355328 then ((some (y562++l1:List Int)).bind fun y565=>((nepentheref01_Big.f k (IntKind.u64.wrap (a3)) 4).bind fun t568=>(if y565.length+t568.length<140737488355328 then ((nepentheref03_Tag.f k l0 (y565++t568)).bind fun t574=>(nepentheref04_Block.l0 k l0 a2 t574 t574 1)) else (none)))) else (none)))=some r:=h
 clear h
 obtain ⟨y562,hy562⟩:∃ y_:List Int,y_=(([]:List Int)):=⟨_,rfl⟩
 replace H:(if y562.length+l1.length<140737488355328 then ((some (y562++l1:List Int)).bind fun y565=>((nepentheref01_Big.f k (IntKind.u64.wrap (a3)) 4).bind fun t568=>(if y565.length+t568.length<140737488355328 then ((nepentheref03_Tag.f k l0 (y565++t568)).bind fun t574=>(nepentheref04_Block.l0 k l0 a2 t574 t574 1)) else (none)))) else (none))=some r:=by first | (rw[hy562];with_reducible exact H) | (have H2_:=(Option.bind_some _ _).symm.trans H;rw[hy562];with_reducible exact H2_) | (have H2_:=(Option.bind_some _ _).symm.trans H;with_reducible exact H2_) | with_reducible exact H | (rw[hy562];exact H) | exact H
 have Ny562:=Aside0.mk hy562
 clear hy562
 by_cases c5:y562.length+l1.length<140737488355328
 ·rw[if_pos c5] at H
  have LMc5:=Aside0.mk c5
  clear c5
  obtain ⟨y565,hy565⟩:∃ y_:List Int,y_=(y562++l1):=⟨_,rfl⟩
  replace H:((nepentheref01_Big.f k (IntKind.u64.wrap (a3)) 4).bind fun t568=>(if y565.length+t568.length<140737488355328 then ((nepentheref03_Tag.f k l0 (y565++t568)).bind fun t574=>(nepentheref04_Block.l0 k l0 a2 t574 t574 1)) else (none)))=some r:=by first | (rw[hy565];with_reducible exact H) | (have H2_:=(Option.bind_some _ _).symm.trans H;rw[hy565];with_reducible exact H2_) | (have H2_:=(Option.bind_some _ _).symm.trans H;with_reducible exact H2_) | with_reducible exact H | (rw[hy565];exact H) | exact H
  have Ny565:=Aside0.mk hy565
  clear hy565
  replace H:=Option.bind_eq_some_iff.mp H
  obtain ⟨t568,A60,H⟩:=H
  replace H:(if y565.length+t568.length<140737488355328 then ((nepentheref03_Tag.f k l0 (y565++t568)).bind fun t574=>(nepentheref04_Block.l0 k l0 a2 t574 t574 1)) else (none))=some r:=H
  have A6:=Aside0.mk A60
  clear A60
  by_cases c7:y565.length+t568.length<140737488355328
  ·rw[if_pos c7] at H
   have LMc7:=Aside0.mk c7
   clear c7
   obtain ⟨y571,hy571⟩:∃ y_:List Int,y_=(y565++t568):=⟨_,rfl⟩
   replace H:((nepentheref03_Tag.f k l0 y571).bind fun t574=>(nepentheref04_Block.l0 k l0 a2 t574 t574 1))=some r:=by first | (rw[hy571];with_reducible exact H) | (have H2_:=(Option.bind_some _ _).symm.trans H;rw[hy571];with_reducible exact H2_) | (have H2_:=(Option.bind_some _ _).symm.trans H;with_reducible exact H2_) | with_reducible exact H | (rw[hy571];exact H) | exact H
   have Ny571:=Aside0.mk hy571
   clear hy571
   replace H:=Option.bind_eq_some_iff.mp H
   obtain ⟨t574,A80,H⟩:=H
   replace H:(nepentheref04_Block.l0 k l0 a2 t574 t574 1)=some r:=H
   have A8:=Aside0.mk A80
   clear A80
   have H':=Aside0.mk H
   clear H
   go_enter Try.func69,Try.ntmps69
   go_wp2_with (first | ((with_reducible refine gate_dst (N:=13) rfl ?_);refine Kd.R_lit (Kd.int .u8) _ 5 ?hg (N:=13) ?hd (xs:=([]:List Int)) (inner:=[]) (ok:=fun _=>True) (okp:=fun _=>True) ?hr ?hp (fun _ hk=>hk) trivial (Below.refl _ _) (Nat.le_refl _) (by simp) ?_;(case hd=>rfl);(case hg=>rfl);(case hr=>first | (go_simp;done) | (go_simp;rfl) | (go_simp;simp only[IntKind.wrap_u32,Int.emod_add_emod,Int.add_emod_emod]));(case hp=>exact (Reps.none _ _));intro v563 w9 ho10 hb hg_ hnew_;clear hg_ hnew_;(first | rw[← Ny562.out] at ho10 | (simp only[Int.reduceToNat] at ho10;rw[← Ny562.out] at ho10));have n0_:=Aside0.mk (Kd.R_lower ho10 (below_size (by repeat (first | (with_reducible first | exact HB.out | apply below_alloc | apply pw_below_drewN | apply below_drew1) | exact HB.out))));have n1_:=Aside0.mk (below_step (by repeat (first | (with_reducible first | exact HB.out | apply below_alloc | apply pw_below_drewN | apply below_drew1) | exact HB.out)) hb);clear HB;have HO564:=n0_;have HB:=n1_;clear n0_ n1_;clear hb ho10) | ((with_reducible refine gate_builtin (b:=.append) (xs:=#[.tmp 13,.tmp 14]) rfl ?_);at_builtin;refine Kd.R_append_rows (Kd.int .u8) (w0:=w) w.heap.size rfl (.tmp 13) (.tmp 14) 23 5 (.int .u8 0) 1 rfl Try.underlying23 info5 rfl (by decide) (by omega) v563 y562 l1 _ _ _ (fun _=>True) (fun _=>False) rfl rfl ?aO ?aR (fun _ _ h=>h) (fun _ h=>h.elim) ?aF ?aB ?aS ?aL ?_;(case aR=>repeat (first | exact (Kd.C_below HR1.out HB.out) | (with_reducible refine Kd.C_alloc ?_ _) | (with_reducible refine Kd.C_drewN ?_ _) | (with_reducible refine Kd.C_drew ?_)));(case aB=>exact (by repeat (first | (with_reducible first | exact HB.out | apply below_alloc | apply pw_below_drewN | apply below_drew1) | exact HB.out)));(case aF=>exact (fun _ _=>trivial));(case aO=>exact (by (with_reducible repeat (first | apply Kd.R_alloc | apply Kd.R_drewN | apply Kd.R_drew));exact HO564.out));(case aS=>exact (below_size (by repeat (first | (with_reducible first | exact HB.out | apply below_alloc | apply pw_below_drewN | apply below_drew1) | exact HB.out))));(case aL=>have:=LMc5.out;omega);intro v566 w11 ho hb hg hat;rw[← Ny565.out] at ho;have n0_:=Aside0.mk (hb);have n1_:=Aside0.mk (ho);clear HB;clear HO564;have HB:=n0_;have HO567:=n1_;clear n0_ n1_;clear ho hb hg hat) | ((with_reducible refine gate_callee (f:=51) rfl ?_);refine goesL_ (some 18) rfl rfl Try.func51 (by kernel_rfl) rfl #[.int .u64 (IntKind.u64.wrap (a3)),.int .i64 4] rfl (by (try simp only[List.map_toArray,List.map_cons,List.map_nil]);first | done | rfl | (simp only[List.length_drop,List.length_take];rfl)) ?_;(with_reducible refine (nepentheref01_Big.calls k (IntKind.u64.wrap (a3)) 4 t568 _ A6.out).mono ?_);rintro e w12 ⟨v569,rfl,ho0,hb⟩;refine ⟨_,rfl,?_⟩;have n0_:=Aside0.mk (Kd.R_elder' (by (with_reducible repeat (first | apply Kd.R_alloc | apply Kd.R_drewN | apply Kd.R_drew));exact HO567.out) (Kd.R_base ho0) hb);have n1_:=Aside0.mk (Kd.R_lower (Kd.R_new' ho0 (Kd.R_lt (by (with_reducible repeat (first | apply Kd.R_alloc | apply Kd.R_drewN | apply Kd.R_drew));exact HO567.out))) (below_size (by repeat (first | (with_reducible first | exact HB.out | apply below_alloc | apply pw_below_drewN | apply below_drew1) | exact HB.out))));have n2_:=Aside0.mk (below_step (by repeat (first | (with_reducible first | exact HB.out | apply below_alloc | apply pw_below_drewN | apply below_drew1) | exact HB.out)) hb);clear HO567;clear HB;have HO567:=n0_;have HO570:=n1_;have HB:=n2_;clear n0_ n1_ n2_;(try clear hb);(try clear hb2);(try clear hk);(try clear hi);(try clear ho0);obtain ⟨Ao14,co14,eo14⟩:=Kd.R_slice HO570.out;subst eo14) | ((with_reducible refine gate_builtin (b:=.append) (xs:=#[.tmp 15,.tmp 18]) rfl ?_);at_builtin;refine Kd.R_append_rows (Kd.int .u8) (w0:=w) w.heap.size rfl (.tmp 15) (.tmp 18) 23 5 (.int .u8 0) 1 rfl Try.underlying23 info5 rfl (by decide) (by omega) v566 y565 t568 _ _ _ (fun k_=>some k_≠(.slice Ao14 t568.length co14:Value).ownBlock) (fun _=>False) rfl rfl ?aO ?aR (fun _ _ h=>h) (fun _ h=>h.elim) ?aF ?aB ?aS ?aL ?_;(case aR=>repeat (first | exact (Kd.R_reads' HO570.out).2.2 | (with_reducible refine Kd.C_alloc ?_ _) | (with_reducible refine Kd.C_drewN ?_ _) | (with_reducible refine Kd.C_drew ?_)));(case aB=>exact (by repeat (first | (with_reducible first | exact HB.out | apply below_alloc | apply pw_below_drewN | apply below_drew1) | exact HB.out)));(case aF=>exact (fun k_ hk=>Kd.fresh' (Kd.R_lt (by (with_reducible repeat (first | apply Kd.R_alloc | apply Kd.R_drewN | apply Kd.R_drew));exact HO570.out)) k_ hk));(case aO=>exact (by (with_reducible repeat (first | apply Kd.R_alloc | apply Kd.R_drewN | apply Kd.R_drew));exact Kd.R_mono HO567.out (fun _ hk=>by first | exact hk.2 | trivial)));(case aS=>exact (below_size (by repeat (first | (with_reducible first | exact HB.out | apply below_alloc | apply pw_below_drewN | apply below_drew1) | exact HB.out))));(case aL=>have:=LMc7.out;omega);intro v572 w13 ho hb hg hat;rw[← Ny571.out] at ho;have n0_:=Aside0.mk (Kd.R_after (ok:=(fun _=>True)) (by (with_reducible repeat (first | apply Kd.R_alloc | apply Kd.R_drewN | apply Kd.R_drew));exact HO570.out) hg hat);have n1_:=Aside0.mk (hb);have n2_:=Aside0.mk (ho);clear HO570;clear HB;clear HO567;have HO570:=n0_;have HB:=n1_;have HO573:=n2_;clear n0_ n1_ n2_;clear ho hb hg hat;obtain ⟨Ao15,co15,eo15⟩:=Kd.R_slice HO573.out;subst eo15) | ((with_reducible refine gate_callee (f:=54) rfl ?_);refine goesL_ (some 20) rfl rfl Try.func54 (by kernel_rfl) rfl #[.slice A0 l0.length c0,.slice Ao15 y571.length co15] rfl (by (try simp only[List.map_toArray,List.map_cons,List.map_nil]);first | done | rfl | (simp only[List.length_drop,List.length_take];rfl)) ?_;(with_reducible refine (nepentheref03_Tag.calls k _ _ l0 _ _ y571 t574 _ ?side1 ?side2 ?side3 ?side4 A8.out).mono ?_);(case side1=>repeat (first | exact (Kd.C_below HR0.out HB.out) | (with_reducible refine Kd.C_alloc ?_ _) | (with_reducible refine Kd.C_drewN ?_ _) | (with_reducible refine Kd.C_drew ?_)));(case side2=>exact HC0.out);(case side3=>repeat (first | exact (Kd.R_reads' HO573.out).2.2 | (with_reducible refine Kd.C_alloc ?_ _) | (with_reducible refine Kd.C_drewN ?_ _) | (with_reducible refine Kd.C_drew ?_)));(case side4=>exact (Kd.R_reads' HO573.out).2.1);rintro e w16 ⟨v575,rfl,ho0,hb⟩;refine ⟨_,rfl,?_⟩;have n0_:=Aside0.mk (Kd.R_elder' (by (with_reducible repeat (first | apply Kd.R_alloc | apply Kd.R_drewN | apply Kd.R_drew));exact HO570.out) (Kd.R_base ho0) hb);have n1_:=Aside0.mk (Kd.R_elder' (by (with_reducible repeat (first | apply Kd.R_alloc | apply Kd.R_drewN | apply Kd.R_drew));exact HO573.out) (Kd.R_base ho0) hb);have n2_:=Aside0.mk (Kd.R_lower (Kd.R_new' (Kd.R_new' ho0 (Kd.R_lt (by (with_reducible repeat (first | apply Kd.R_alloc | apply Kd.R_drewN | apply Kd.R_drew));exact HO570.out))) (Kd.R_lt (by (with_reducible repeat (first | apply Kd.R_alloc | apply Kd.R_drewN | apply Kd.R_drew));exact HO573.out))) (below_size (by repeat (first | (with_reducible first | exact HB.out | apply below_alloc | apply pw_below_drewN | apply below_drew1) | exact HB.out))));have n3_:=Aside0.mk (below_step (by repeat (first | (with_reducible first | exact HB.out | apply below_alloc | apply pw_below_drewN | apply below_drew1) | exact HB.out)) hb);clear HO570;clear HO573;clear HB;have HO570:=n0_;have HO573:=n1_;have HO576:=n2_;have HB:=n3_;clear n0_ n1_ n2_ n3_;(try clear hb);(try clear hb2);(try clear hk);(try clear hi);(try clear ho0)))
   go_loopg [9,10,11] k (fun kq v9 v10 v11 w'=>∃ (x9_1:List Int) (x10_1:List Int) (x11_1:Int),v11=.int .i64 x11_1∧Aside0 (nepentheref04_Block.l0 kq l0 a2 x9_1 x10_1 x11_1=some r)∧Aside0 (kq≤k)∧Aside0 (Kd.R (Kd.int .u8) 5 w' w.heap.size (fun _=>True) v9 x9_1)∧Aside0 (Kd.R (Kd.int .u8) 5 w' w.heap.size (fun _=>True) v10 x10_1)∧Aside0 (Below w.heap.size w w'))
   case atStart=>exact ⟨(t574),(t574),(1),(by first | rfl | (simp;done) | (simp[*];done)),H',⟨Nat.le_refl _⟩,⟨by (with_reducible repeat (first | apply Kd.R_alloc | apply Kd.R_drewN | apply Kd.R_drew));exact Kd.R_mono HO576.out (fun _ hk=>trivial)⟩,⟨by (with_reducible repeat (first | apply Kd.R_alloc | apply Kd.R_drewN | apply Kd.R_drew));exact Kd.R_mono HO576.out (fun _ hk=>trivial)⟩,⟨by repeat (first | (with_reducible first | exact HB.out | apply below_alloc | apply pw_below_drewN | apply below_drew1) | exact HB.out)⟩⟩
   case round=>
    clear H'
    try clear c1
    try clear p2
    try clear c5
    try clear c6
    try clear c7
    obtain ⟨x9_1,x10_1,x11_1,rfl,HA,HK1,HO_9,HO_10,HB⟩:=hrel
    cases gk with
    |zero=>exact absurd HA.out (by simp[nepentheref04_Block.l0])
    |succ k1=>
     have H:=HA.out
     clear HA
     simp only[nepentheref04_Block.l0] at H
     by_cases c17:x11_1<a2
     ·rw[if_pos c17] at H
      have c17b0:decide (x11_1<a2)=true:=decide_eq_true c17
      clear c17
      replace H:=Option.bind_eq_some_iff.mp H
      obtain ⟨t577,A180,H⟩:=H
      replace H:((nepentheref01_Xor.f k1 x10_1 t577).bind fun t580=>(nepentheref04_Block.l0 k1 l0 a2 t577 t580 (wrap64 (x11_1+1))))=some r:=H
      have A18:=Aside0.mk A180
      clear A180
      replace H:=Option.bind_eq_some_iff.mp H
      obtain ⟨t580,A190,H⟩:=H
      replace H:(nepentheref04_Block.l0 k1 l0 a2 t577 t580 (wrap64 (x11_1+1)))=some r:=H
      have A19:=Aside0.mk A190
      clear A190
      have H':=Aside0.mk H
      clear H
      obtain ⟨Ao20,co20,eo20⟩:=Kd.R_slice HO_9.out
      subst eo20
      go_wp2_with (first | ((with_reducible refine gate_callee (f:=54) rfl ?_);refine goesL_ (some 29) rfl rfl Try.func54 (by kernel_rfl) rfl #[.slice A0 l0.length c0,.slice Ao20 x9_1.length co20] rfl (by (try simp only[List.map_toArray,List.map_cons,List.map_nil]);first | done | rfl | (simp only[List.length_drop,List.length_take];rfl)) ?_;(with_reducible refine (nepentheref03_Tag.calls k1 _ _ l0 _ _ x9_1 t577 _ ?side1 ?side2 ?side3 ?side4 A18.out).mono ?_);(case side1=>repeat (first | exact (Kd.C_below HR0.out HB.out) | (with_reducible refine Kd.C_alloc ?_ _) | (with_reducible refine Kd.C_drewN ?_ _) | (with_reducible refine Kd.C_drew ?_)));(case side2=>exact HC0.out);(case side3=>repeat (first | exact (Kd.R_reads' HO_9.out).2.2 | (with_reducible refine Kd.C_alloc ?_ _) | (with_reducible refine Kd.C_drewN ?_ _) | (with_reducible refine Kd.C_drew ?_)));(case side4=>exact (Kd.R_reads' HO_9.out).2.1);rintro e w21 ⟨v578,rfl,ho0,hb⟩;refine ⟨_,rfl,?_⟩;have n0_:=Aside0.mk (Kd.R_elder' (by (with_reducible repeat (first | apply Kd.R_alloc | apply Kd.R_drewN | apply Kd.R_drew));exact HO_9.out) (Kd.R_base ho0) hb);have n1_:=Aside0.mk (Kd.R_elder' (by (with_reducible repeat (first | apply Kd.R_alloc | apply Kd.R_drewN | apply Kd.R_drew));exact HO_10.out) (Kd.R_base ho0) hb);have n2_:=Aside0.mk (Kd.R_lower (Kd.R_new' (Kd.R_new' ho0 (Kd.R_lt (by (with_reducible repeat (first | apply Kd.R_alloc | apply Kd.R_drewN | apply Kd.R_drew));exact HO_9.out))) (Kd.R_lt (by (with_reducible repeat (first | apply Kd.R_alloc | apply Kd.R_drewN | apply Kd.R_drew));exact HO_10.out))) (below_size (by repeat (first | (with_reducible first | exact HB.out | apply below_alloc | apply pw_below_drewN | apply below_drew1) | exact HB.out))));have n3_:=Aside0.mk (below_step (by repeat (first | (with_reducible first | exact HB.out | apply below_alloc | apply pw_below_drewN | apply below_drew1) | exact HB.out)) hb);clear HO_9;clear HO_10;clear HB;have HO_9:=n0_;have HO_10:=n1_;have HO579:=n2_;have HB:=n3_;clear n0_ n1_ n2_ n3_;(try clear hb);(try clear hb2);(try clear hk);(try clear hi);(try clear ho0);obtain ⟨Ao22,co22,eo22⟩:=Kd.R_slice HO_10.out;subst eo22;obtain ⟨Ao23,co23,eo23⟩:=Kd.R_slice HO579.out;subst eo23) | ((with_reducible refine gate_callee (f:=76) rfl ?_);refine goesL_ (some 32) rfl rfl Try.func76 (by kernel_rfl) rfl #[.slice Ao22 x10_1.length co22,.slice Ao23 t577.length co23] rfl (by (try simp only[List.map_toArray,List.map_cons,List.map_nil]);first | done | rfl | (simp only[List.length_drop,List.length_take];rfl)) ?_;(with_reducible refine (nepentheref01_Xor.calls k1 _ _ x10_1 _ _ t577 t580 _ ?side1 ?side2 ?side3 ?side4 A19.out).mono ?_);(case side1=>repeat (first | exact (Kd.R_reads' HO_10.out).2.2 | (with_reducible refine Kd.C_alloc ?_ _) | (with_reducible refine Kd.C_drewN ?_ _) | (with_reducible refine Kd.C_drew ?_)));(case side2=>exact (Kd.R_reads' HO_10.out).2.1);(case side3=>repeat (first | exact (Kd.R_reads' HO579.out).2.2 | (with_reducible refine Kd.C_alloc ?_ _) | (with_reducible refine Kd.C_drewN ?_ _) | (with_reducible refine Kd.C_drew ?_)));(case side4=>exact (Kd.R_reads' HO579.out).2.1);rintro e w24 ⟨v581,rfl,ho0,hb⟩;refine ⟨_,rfl,?_⟩;have n0_:=Aside0.mk (Kd.R_elder' (by (with_reducible repeat (first | apply Kd.R_alloc | apply Kd.R_drewN | apply Kd.R_drew));exact HO_9.out) (Kd.R_base ho0) hb);have n1_:=Aside0.mk (Kd.R_elder' (by (with_reducible repeat (first | apply Kd.R_alloc | apply Kd.R_drewN | apply Kd.R_drew));exact HO_10.out) (Kd.R_base ho0) hb);have n2_:=Aside0.mk (Kd.R_elder' (by (with_reducible repeat (first | apply Kd.R_alloc | apply Kd.R_drewN | apply Kd.R_drew));exact HO579.out) (Kd.R_base ho0) hb);have n3_:=Aside0.mk (Kd.R_lower (Kd.R_new' (Kd.R_new' (Kd.R_new' ho0 (Kd.R_lt (by (with_reducible repeat (first | apply Kd.R_alloc | apply Kd.R_drewN | apply Kd.R_drew));exact HO_9.out))) (Kd.R_lt (by (with_reducible repeat (first | apply Kd.R_alloc | apply Kd.R_drewN | apply Kd.R_drew));exact HO_10.out))) (Kd.R_lt (by (with_reducible repeat (first | apply Kd.R_alloc | apply Kd.R_drewN | apply Kd.R_drew));exact HO579.out))) (below_size (by repeat (first | (with_reducible first | exact HB.out | apply below_alloc | apply pw_below_drewN | apply below_drew1) | exact HB.out))));have n4_:=Aside0.mk (below_step (by repeat (first | (with_reducible first | exact HB.out | apply below_alloc | apply pw_below_drewN | apply below_drew1) | exact HB.out)) hb);clear HO_9;clear HO_10;clear HO579;clear HB;have HO_9:=n0_;have HO_10:=n1_;have HO579:=n2_;have HO582:=n3_;have HB:=n4_;clear n0_ n1_ n2_ n3_ n4_;(try clear hb);(try clear hb2);(try clear hk);(try clear hi);(try clear ho0)))
      go_roundg k1
      case measure=>have:=HK1.out;omega
      case rel=>exact ⟨(t577),(t580),(wrap64 (x11_1+1)),(by first | rfl | (simp;done) | (simp[*];done)),H',⟨by have:=HK1.out;omega⟩,⟨by (with_reducible repeat (first | apply Kd.R_alloc | apply Kd.R_drewN | apply Kd.R_drew));exact Kd.R_mono HO579.out (fun _ hk=>by first | exact hk.2 | trivial)⟩,⟨by (with_reducible repeat (first | apply Kd.R_alloc | apply Kd.R_drewN | apply Kd.R_drew));exact Kd.R_mono HO582.out (fun _ hk=>by first | exact hk.2 | trivial)⟩,⟨by repeat (first | (with_reducible first | exact HB.out | apply below_alloc | apply pw_below_drewN | apply below_drew1) | exact HB.out)⟩⟩
     rw[if_neg c17] at H
     have c17b0:decide (x11_1<a2)=false:=decide_eq_false c17
     clear c17
     obtain rfl:=Option.some.inj H
     go_wp2
     go_ret
     exact ⟨_,by first | rfl | (simp[errW_none,errW_some] <;> rfl) | (simp[*,errW_none,errW_some] <;> rfl),by (with_reducible repeat (first | apply Kd.R_alloc | apply Kd.R_drewN | apply Kd.R_drew));exact HO_10.out,by repeat (first | (with_reducible first | exact HB.out | apply below_alloc | apply pw_below_drewN | apply below_drew1) | exact HB.out)⟩
  rw[if_neg c7] at H
  exact absurd H (by simp)
 rw[if_neg c5] at H
 exact absurd H (by simp)
end Go.Proofs.Ytbajioiiaamokaa.QB
