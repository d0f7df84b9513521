/- QBx12, pruned (slim.py). -/
import Derived.Test.YtbajioiiaamokaaZF4
import Derived.Test.YtbajioiiaamokaaZF11
namespace Go.Proofs.Ytbajioiiaamokaa.Own
end Go.Proofs.Ytbajioiiaamokaa.Own
namespace Go.Proofs.Ytbajioiiaamokaa.QB
open Go.RowKit Go.Proofs.Ytbajioiiaamokaa.Own Go.Proofs.YtbajioiiaamokaaW.PrintWords Go.Proofs.YtbajioiiaamokaaW.PrintLast Go.Proofs.YtbajioiiaamokaaW.PrintMore
attribute [local go_sem] max2_int min2_int max_two min_two max_three min_three max_four min_four
set_option linter.unusedVariables false
set_option linter.unusedSimpArgs false
def nepentheref04_Bytes.l0:Nat→List Int→List Int→Int→Int→List Int→Int→Option (List Int)
 |0,_,_,_,_,_,_=>none
 |k+1,x0,x1,x2,x3,x9,x10=>if (x9.length:Int)<x3 then ((nepentheref04_Block.f k x0 x1 x2 x10).bind fun t586=>(if x9.length+t586.length<140737488355328 then (nepentheref04_Bytes.l0 k x0 x1 x2 x3 (x9++t586) (wrap64 (x10+1))) else (none))) else (if 0≤x3 then (if x3≤(x9.length:Int) then (some (x9.take (x3:Int).toNat)) else (none)) else (none))
def nepentheref04_Bytes.f (k:Nat) (l0:List Int) (l1:List Int) (a2:Int) (a3:Int):Option (List Int):=nepentheref04_Bytes.l0 k l0 l1 a2 a3 (([]:List Int)) 1
set_option maxHeartbeats 8000000 in
set_option maxRecDepth 100000 in
theorem nepentheref04_Bytes.calls (k:Nat) (A0:Option Addr) (c0:Nat) (l0:List Int) (A1:Option Addr) (c1:Nat) (l1:List Int) (a2:Int) (a3:Int) (r:List Int) (w:World) (hr0:Kd.C (Kd.int .u8) w A0 l0.length l0) (hc0:l0.length≤c0) (hr1:Kd.C (Kd.int .u8) w A1 l1.length l1) (hc1:l1.length≤c1) (h:nepentheref04_Bytes.f k l0 l1 a2 a3=some r) :
  Calls Try.prog 38 #[.slice A0 l0.length c0,.slice A1 l1.length c1,.int .i64 a2,.int .i64 a3] w fun e w'=>∃ v0_:Value,e=.returned (v0_)∧Kd.R (Kd.int .u8) 5 w' w.heap.size (fun _=>True) v0_ r∧Below w.heap.size w w':=by
 have HR0:=Aside0.mk hr0
 have HC0:=Aside0.mk hc0
 clear hr0 hc0
 have HR1:=Aside0.mk hr1
 have HC1:=Aside0.mk hc1
 clear hr1 hc1
 have HB:=Aside0.mk (Below.refl w.heap.size w)
 have H:(nepentheref04_Bytes.l0 k l0 l1 a2 a3 (([]:List Int)) 1)=some r:=h
 clear h
 obtain ⟨y583,hy583⟩:∃ y_:List Int,y_=(([]:List Int)):=⟨_,rfl⟩
 replace H:(nepentheref04_Bytes.l0 k l0 l1 a2 a3 y583 1)=some r:=by first | (rw[hy583];with_reducible exact H) | (have H2_:=(Option.bind_some _ _).symm.trans H;rw[hy583];with_reducible exact H2_) | (have H2_:=(Option.bind_some _ _).symm.trans H;with_reducible exact H2_) | with_reducible exact H | (rw[hy583];exact H) | exact H
 have Ny583:=Aside0.mk hy583
 clear hy583
 have H':=Aside0.mk H
 clear H
 go_enter Try.func38,Try.ntmps38
 go_wp2_with (first | ((with_reducible refine gate_dst (N:=11) rfl ?_);refine Kd.R_lit (Kd.int .u8) _ 5 ?hg (N:=11) ?hd (xs:=([]:List Int)) (inner:=[]) (ok:=fun _=>True) (okp:=fun _=>True) ?hr ?hp (fun _ hk=>hk) trivial (Below.refl _ _) (Nat.le_refl _) (by simp) ?_;(case hd=>rfl);(case hg=>rfl);(case hr=>first | (go_simp;done) | (go_simp;rfl) | (go_simp;simp only[IntKind.wrap_u32,Int.emod_add_emod,Int.add_emod_emod]));(case hp=>exact (Reps.none _ _));intro v584 w5 ho6 hb hg_ hnew_;clear hg_ hnew_;(first | rw[← Ny583.out] at ho6 | (simp only[Int.reduceToNat] at ho6;rw[← Ny583.out] at ho6));have n0_:=Aside0.mk (Kd.R_lower ho6 (below_size (by repeat (first | (with_reducible first | exact HB.out | apply below_alloc | apply pw_below_drewN | apply below_drew1) | exact HB.out))));have n1_:=Aside0.mk (below_step (by repeat (first | (with_reducible first | exact HB.out | apply below_alloc | apply pw_below_drewN | apply below_drew1) | exact HB.out)) hb);clear HB;have HO585:=n0_;have HB:=n1_;clear n0_ n1_;clear hb ho6))
 go_loopg [9,10] k (fun kq v9 v10 w'=>∃ (x9_1:List Int) (x10_1:Int),v10=.int .i64 x10_1∧Aside0 (nepentheref04_Bytes.l0 kq l0 l1 a2 a3 x9_1 x10_1=some r)∧Aside0 (kq≤k)∧Aside0 (Kd.R (Kd.int .u8) 5 w' w.heap.size (fun _=>True) v9 x9_1)∧Aside0 (Below w.heap.size w w'))
 case atStart=>exact ⟨(y583),(1),(by first | rfl | (simp;done) | (simp[*];done)),H',⟨Nat.le_refl _⟩,⟨by (with_reducible repeat (first | apply Kd.R_alloc | apply Kd.R_drewN | apply Kd.R_drew));exact HO585.out⟩,⟨by repeat (first | (with_reducible first | exact HB.out | apply below_alloc | apply pw_below_drewN | apply below_drew1) | exact HB.out)⟩⟩
 case round=>
  clear H'
  try clear c1
  try clear p2
  try clear c3
  obtain ⟨x9_1,x10_1,rfl,HA,HK1,HO_9,HB⟩:=hrel
  cases gk with
  |zero=>exact absurd HA.out (by simp[nepentheref04_Bytes.l0])
  |succ k1=>
   have H:=HA.out
   clear HA
   simp only[nepentheref04_Bytes.l0] at H
   by_cases c7:(x9_1.length:Int)<a3
   ·rw[if_pos c7] at H
    have c7b0:decide ((x9_1.length:Int)<a3)=true:=decide_eq_true c7
    clear c7
    replace H:=Option.bind_eq_some_iff.mp H
    obtain ⟨t586,A80,H⟩:=H
    replace H:(if x9_1.length+t586.length<140737488355328 then (nepentheref04_Bytes.l0 k1 l0 l1 a2 a3 (x9_1++t586) (wrap64 (x10_1+1))) else (none))=some r:=H
    have A8:=Aside0.mk A80
    clear A80
    by_cases c9:x9_1.length+t586.length<140737488355328
    ·rw[if_pos c9] at H
     have LMc9:=Aside0.mk c9
     clear c9
     obtain ⟨y589,hy589⟩:∃ y_:List Int,y_=(x9_1++t586):=⟨_,rfl⟩
     replace H:(nepentheref04_Bytes.l0 k1 l0 l1 a2 a3 y589 (wrap64 (x10_1+1)))=some r:=by first | (rw[hy589];with_reducible exact H) | (have H2_:=(Option.bind_some _ _).symm.trans H;rw[hy589];with_reducible exact H2_) | (have H2_:=(Option.bind_some _ _).symm.trans H;with_reducible exact H2_) | with_reducible exact H | (rw[hy589];exact H) | exact H
     have Ny589:=Aside0.mk hy589
     clear hy589
     have H':=Aside0.mk H
     clear H
     obtain ⟨Ao10,co10,eo10⟩:=Kd.R_slice HO_9.out
     subst eo10
     go_wp2_with (first | ((with_reducible refine gate_callee (f:=69) rfl ?_);refine goesL_ (some 23) rfl rfl Try.func69 (by kernel_rfl) rfl #[.slice A0 l0.length c0,.slice A1 l1.length c1,.int .i64 a2,.int .i64 x10_1] rfl (by (try simp only[List.map_toArray,List.map_cons,List.map_nil]);first | done | rfl | (simp only[List.length_drop,List.length_take];rfl)) ?_;(with_reducible refine (nepentheref04_Block.calls k1 _ _ l0 _ _ l1 a2 x10_1 t586 _ ?side1 ?side2 ?side3 ?side4 A8.out).mono ?_);(case side1=>repeat (first | exact (Kd.C_below HR0.out HB.out) | (with_reducible refine Kd.C_alloc ?_ _) | (with_reducible refine Kd.C_drewN ?_ _) | (with_reducible refine Kd.C_drew ?_)));(case side2=>exact HC0.out);(case side3=>repeat (first | exact (Kd.C_below HR1.out HB.out) | (with_reducible refine Kd.C_alloc ?_ _) | (with_reducible refine Kd.C_drewN ?_ _) | (with_reducible refine Kd.C_drew ?_)));(case side4=>exact HC1.out);rintro e w11 ⟨v587,rfl,ho0,hb⟩;refine ⟨_,rfl,?_⟩;have n0_:=Aside0.mk (Kd.R_elder' (by (with_reducible repeat (first | apply Kd.R_alloc | apply Kd.R_drewN | apply Kd.R_drew));exact HO_9.out) (Kd.R_base ho0) hb);have n1_:=Aside0.mk (Kd.R_lower (Kd.R_new' ho0 (Kd.R_lt (by (with_reducible repeat (first | apply Kd.R_alloc | apply Kd.R_drewN | apply Kd.R_drew));exact HO_9.out))) (below_size (by repeat (first | (with_reducible first | exact HB.out | apply below_alloc | apply pw_below_drewN | apply below_drew1) | exact HB.out))));have n2_:=Aside0.mk (below_step (by repeat (first | (with_reducible first | exact HB.out | apply below_alloc | apply pw_below_drewN | apply below_drew1) | exact HB.out)) hb);clear HO_9;clear HB;have HO_9:=n0_;have HO588:=n1_;have HB:=n2_;clear n0_ n1_ n2_;(try clear hb);(try clear hb2);(try clear hk);(try clear hi);(try clear ho0);obtain ⟨Ao13,co13,eo13⟩:=Kd.R_slice HO588.out;subst eo13) | ((with_reducible refine gate_builtin (b:=.append) (xs:=#[.tmp 18,.tmp 23]) rfl ?_);at_builtin;refine Kd.R_append_rows (Kd.int .u8) (w0:=w) w.heap.size rfl (.tmp 18) (.tmp 23) 23 5 (.int .u8 0) 1 rfl Try.underlying23 info5 rfl (by decide) (by omega) (.slice Ao10 x9_1.length co10) x9_1 t586 _ _ _ (fun k_=>some k_≠(.slice Ao13 t586.length co13:Value).ownBlock) (fun _=>False) rfl rfl ?aO ?aR (fun _ _ h=>h) (fun _ h=>h.elim) ?aF ?aB ?aS ?aL ?_;(case aR=>repeat (first | exact (Kd.R_reads' HO588.out).2.2 | (with_reducible refine Kd.C_alloc ?_ _) | (with_reducible refine Kd.C_drewN ?_ _) | (with_reducible refine Kd.C_drew ?_)));(case aB=>exact (by repeat (first | (with_reducible first | exact HB.out | apply below_alloc | apply pw_below_drewN | apply below_drew1) | exact HB.out)));(case aF=>exact (fun k_ hk=>Kd.fresh' (Kd.R_lt (by (with_reducible repeat (first | apply Kd.R_alloc | apply Kd.R_drewN | apply Kd.R_drew));exact HO588.out)) k_ hk));(case aO=>exact (by (with_reducible repeat (first | apply Kd.R_alloc | apply Kd.R_drewN | apply Kd.R_drew));exact Kd.R_mono HO_9.out (fun _ hk=>by first | exact hk.2 | trivial)));(case aS=>exact (below_size (by repeat (first | (with_reducible first | exact HB.out | apply below_alloc | apply pw_below_drewN | apply below_drew1) | exact HB.out))));(case aL=>have:=LMc9.out;omega);intro v590 w12 ho hb hg hat;rw[← Ny589.out] at ho;have n0_:=Aside0.mk (Kd.R_after (ok:=(fun _=>True)) (by (with_reducible repeat (first | apply Kd.R_alloc | apply Kd.R_drewN | apply Kd.R_drew));exact HO588.out) hg hat);have n1_:=Aside0.mk (hb);have n2_:=Aside0.mk (ho);clear HO588;clear HB;clear HO_9;have HO588:=n0_;have HB:=n1_;have HO591:=n2_;clear n0_ n1_ n2_;clear ho hb hg hat))
     go_roundg k1
     case measure=>have:=HK1.out;omega
     case rel=>exact ⟨(y589),(wrap64 (x10_1+1)),(by first | rfl | (simp;done) | (simp[*];done)),H',⟨by have:=HK1.out;omega⟩,⟨by (with_reducible repeat (first | apply Kd.R_alloc | apply Kd.R_drewN | apply Kd.R_drew));exact Kd.R_mono HO591.out (fun _ hk=>trivial)⟩,⟨by repeat (first | (with_reducible first | exact HB.out | apply below_alloc | apply pw_below_drewN | apply below_drew1) | exact HB.out)⟩⟩
    rw[if_neg c9] at H
    exact absurd H (by simp)
   rw[if_neg c7] at H
   have c7b0:decide ((x9_1.length:Int)<a3)=false:=decide_eq_false c7
   clear c7
   by_cases c14:0≤a3
   ·rw[if_pos c14] at H
    have c14b0:=eq_true c14
    have c14b1:decide (0≤a3)=true:=decide_eq_true c14
    clear c14
    by_cases c15:a3≤(x9_1.length:Int)
    ·rw[if_pos c15] at H
     have c15b0:=eq_true c15
     have c15b1:decide (a3≤(x9_1.length:Int))=true:=decide_eq_true c15
     clear c15
     obtain ⟨y592,hy592⟩:∃ y_:List Int,y_=(x9_1.take (a3:Int).toNat):=⟨_,rfl⟩
     replace H:(some y592)=some r:=by first | (rw[hy592];with_reducible exact H) | (have H2_:=(Option.bind_some _ _).symm.trans H;rw[hy592];with_reducible exact H2_) | (have H2_:=(Option.bind_some _ _).symm.trans H;with_reducible exact H2_) | with_reducible exact H | (rw[hy592];exact H) | exact H
     have Ny592:=Aside0.mk hy592
     clear hy592
     obtain rfl:=Option.some.inj H
     obtain ⟨Ao16,co16,eo16⟩:=Kd.R_slice HO_9.out
     subst eo16
     have q17:(a3:Int)≤((x9_1.length:Int):Int):=of_decide_eq_true (by first | (with_reducible assumption) | assumption)
     obtain ⟨i017,hi017,_,hsz17,_⟩:=info_parts info5
     have hcut17:=cut_to (P:=Try.prog) 23 5 .i64 Try.underlying23 hi017 Ao16 x9_1.length co16 a3 (of_decide_eq_true (by first | (with_reducible assumption) | assumption)) q17 (Kd.R_reads' HO_9.out).2.1
     have hr17:=Kd.R_take (m:=(a3:Int).toNat) HO_9.out (by omega)
     have hy17:y592.length=(a3:Int).toNat:=(by rw[Ny592.out,List.length_take];omega)
     rw[← Ny592.out] at hr17
     rw[← hy17] at hr17 hcut17
     clear hy17 hi017 hsz17 HO_9
     have HO594:=Aside0.mk hr17
     clear hr17
     replace q17:=eq_true q17
     go_wp2
     go_ret
     exact ⟨_,by first | rfl | (simp[errW_none,errW_some] <;> rfl) | (simp[*,errW_none,errW_some] <;> rfl),by (with_reducible repeat (first | apply Kd.R_alloc | apply Kd.R_drewN | apply Kd.R_drew));exact HO594.out,by repeat (first | (with_reducible first | exact HB.out | apply below_alloc | apply pw_below_drewN | apply below_drew1) | exact HB.out)⟩
    rw[if_neg c15] at H
    exact absurd H (by simp)
   rw[if_neg c14] at H
   exact absurd H (by simp)
end Go.Proofs.Ytbajioiiaamokaa.QB
