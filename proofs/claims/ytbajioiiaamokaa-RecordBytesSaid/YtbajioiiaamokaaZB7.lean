/- QBx5, pruned (slim.py). -/
import Derived.Test.YtbajioiiaamokaaZB4
import Derived.Test.YtbajioiiaamokaaZB6
namespace Go.Proofs.Ytbajioiiaamokaa.Own
end Go.Proofs.Ytbajioiiaamokaa.Own
namespace Go.Proofs.Ytbajioiiaamokaa.QB
open Go.RowKit Go.Proofs.Ytbajioiiaamokaa.Own Go.Proofs.YtbajioiiaamokaaW.PrintWords Go.Proofs.YtbajioiiaamokaaW.PrintLast Go.Proofs.YtbajioiiaamokaaW.PrintMore
attribute [local go_sem] max2_int min2_int max_two min_two max_three min_three max_four min_four
set_option linter.unusedVariables false
set_option linter.unusedSimpArgs false
def nepentheref01_Little.l0:Nat→Int→Int→List Int→Int→Option (List Int)
 |0,_,_,_,_=>none
 |k+1,x0,x1,x5,x6=>if x6<x1 then (if x6<8 then (if x5.length<140737488355328 then (nepentheref01_Little.l0 k (IntKind.u64.wrap (Int.tdiv x0 256)) x1 (x5 ++ [(Int.tmod x0 256) % 256]) (wrap64 (x6+1))) else (none)) else (some x5)) else (some x5)
def nepentheref01_Little.f (k:Nat) (a0:Int) (a1:Int):Option (List Int):=nepentheref01_Little.l0 k a0 a1 (([]:List Int)) 0
set_option maxHeartbeats 8000000 in
set_option maxRecDepth 100000 in
theorem nepentheref01_Little.calls (k:Nat) (a0:Int) (a1:Int) (r:List Int) (w:World) (h:nepentheref01_Little.f k a0 a1=some r) :
  Calls Try.prog 73 #[.int .u64 a0,.int .i64 a1] w fun e w'=>∃ v0_:Value,e=.returned (v0_)∧Kd.R (Kd.int .u8) 5 w' w.heap.size (fun _=>True) v0_ r∧Below w.heap.size w w':=by
 have HB:=Aside0.mk (Below.refl w.heap.size w)
 have H:(nepentheref01_Little.l0 k a0 a1 (([]:List Int)) 0)=some r:=h
 clear h
 obtain ⟨y209,hy209⟩:∃ y_:List Int,y_=(([]:List Int)):=⟨_,rfl⟩
 replace H:(nepentheref01_Little.l0 k a0 a1 y209 0)=some r:=by first | (rw[hy209];with_reducible exact H) | (have H2_:=(Option.bind_some _ _).symm.trans H;rw[hy209];with_reducible exact H2_) | (have H2_:=(Option.bind_some _ _).symm.trans H;with_reducible exact H2_) | with_reducible exact H | (rw[hy209];exact H) | exact H
 have Ny209:=Aside0.mk hy209
 clear hy209
 have H':=Aside0.mk H
 clear H
 go_enter Try.func73,Try.ntmps73
 go_wp2_with (first | ((with_reducible refine gate_dst (N:=7) rfl ?_);refine Kd.R_lit (Kd.int .u8) _ 5 ?hg (N:=7) ?hd (xs:=([]:List Int)) (inner:=[]) (ok:=fun _=>True) (okp:=fun _=>True) ?hr ?hp (fun _ hk=>hk) trivial (Below.refl _ _) (Nat.le_refl _) (by simp) ?_;(case hd=>rfl);(case hg=>rfl);(case hr=>first | (go_simp;done) | (go_simp;rfl) | (go_simp;simp only[IntKind.wrap_u32,Int.emod_add_emod,Int.add_emod_emod]));(case hp=>exact (Reps.none _ _));intro v210 w3 ho4 hb hg_ hnew_;clear hg_ hnew_;(first | rw[← Ny209.out] at ho4 | (simp only[Int.reduceToNat] at ho4;rw[← Ny209.out] at ho4));have n0_:=Aside0.mk (Kd.R_lower ho4 (below_size (by repeat (first | (with_reducible first | exact HB.out | apply below_alloc | apply pw_below_drewN | apply below_drew1) | exact HB.out))));have n1_:=Aside0.mk (below_step (by repeat (first | (with_reducible first | exact HB.out | apply below_alloc | apply pw_below_drewN | apply below_drew1) | exact HB.out)) hb);clear HB;have HO211:=n0_;have HB:=n1_;clear n0_ n1_;clear hb ho4))
 go_loopg [0,5,6] k (fun kq v0 v5 v6 w'=>∃ (x0_1:Int) (x5_1:List Int) (x6_1:Int),v0=.int .u64 x0_1∧v6=.int .i64 x6_1∧Aside0 (nepentheref01_Little.l0 kq x0_1 a1 x5_1 x6_1=some r)∧Aside0 (kq≤k)∧Aside0 (Kd.R (Kd.int .u8) 5 w' w.heap.size (fun _=>True) v5 x5_1)∧Aside0 (Below w.heap.size w w'))
 case atStart=>exact ⟨(a0),(y209),(0),(by first | rfl | (simp;done) | (simp[*];done)),(by first | rfl | (simp;done) | (simp[*];done)),H',⟨Nat.le_refl _⟩,⟨by (with_reducible repeat (first | apply Kd.R_alloc | apply Kd.R_drewN | apply Kd.R_drew));exact HO211.out⟩,⟨by repeat (first | (with_reducible first | exact HB.out | apply below_alloc | apply pw_below_drewN | apply below_drew1) | exact HB.out)⟩⟩
 case round=>
  clear H'
  try clear p2
  obtain ⟨x0_1,x5_1,x6_1,rfl,rfl,HA,HK1,HO_5,HB⟩:=hrel
  cases gk with
  |zero=>exact absurd HA.out (by simp[nepentheref01_Little.l0])
  |succ k1=>
   have H:=HA.out
   clear HA
   simp only[nepentheref01_Little.l0] at H
   by_cases c5:x6_1<a1
   ·rw[if_pos c5] at H
    have c5b0:decide (x6_1<a1)=true:=decide_eq_true c5
    clear c5
    by_cases c6:x6_1<8
    ·rw[if_pos c6] at H
     have c6b0:decide (x6_1<8)=true:=decide_eq_true c6
     clear c6
     by_cases c7:x5_1.length<140737488355328
     ·rw[if_pos c7] at H
      have LMc7:=Aside0.mk c7
      clear c7
      obtain ⟨y212,hy212⟩:∃ y_:List Int,y_=(x5_1 ++ [(Int.tmod x0_1 256) % 256]):=⟨_,rfl⟩
      replace H:(nepentheref01_Little.l0 k1 (IntKind.u64.wrap (Int.tdiv x0_1 256)) a1 y212 (wrap64 (x6_1+1)))=some r:=by first | (rw[hy212];with_reducible exact H) | (have H2_:=(Option.bind_some _ _).symm.trans H;rw[hy212];with_reducible exact H2_) | (have H2_:=(Option.bind_some _ _).symm.trans H;with_reducible exact H2_) | with_reducible exact H | (rw[hy212];exact H) | exact H
      have Ny212:=Aside0.mk hy212
      clear hy212
      have H':=Aside0.mk H
      clear H
      go_wp2_with (first | ((with_reducible refine gate_builtin (b:=.append) (xs:=#[.tmp 17,.tmp 21]) rfl ?_);at_builtin;refine Kd.R_append (Kd.int .u8) (w0:=w) w.heap.size rfl (.tmp 17) (.tmp 21) 23 5 (.int .u8 0) 1 rfl Try.underlying23 info5 rfl (by decide) (by omega) u5 x5_1 ((Int.tmod x0_1 256) % 256) [.int .u8 ((Int.tmod x0_1 256) % 256)] (fun _=>True) (fun _=>False) rfl rfl ?aP (fun _ hk=>hk.elim) ?aF ?aO ?aB ?aS ?aL ?_;(case aP=>exact rfl);(case aB=>exact (by repeat (first | (with_reducible first | exact HB.out | apply below_alloc | apply pw_below_drewN | apply below_drew1) | exact HB.out)));(case aF=>exact (fun _ _=>trivial));(case aO=>exact (by (with_reducible repeat (first | apply Kd.R_alloc | apply Kd.R_drewN | apply Kd.R_drew));exact HO_5.out));(case aS=>exact (below_size (by repeat (first | (with_reducible first | exact HB.out | apply below_alloc | apply pw_below_drewN | apply below_drew1) | exact HB.out))));(case aL=>have:=LMc7.out;omega);intro v213 w8 ho hb hg hat;rw[← Ny212.out] at ho;have n0_:=Aside0.mk (hb);have n1_:=Aside0.mk (ho);clear HB;clear HO_5;have HB:=n0_;have HO214:=n1_;clear n0_ n1_;clear ho hb hg hat))
      go_roundg k1
      case measure=>have:=HK1.out;omega
      case rel=>exact ⟨(IntKind.u64.wrap (Int.tdiv x0_1 256)),(y212),(wrap64 (x6_1+1)),(by first | rfl | (simp;done) | (simp[*];done)),(by first | rfl | (simp;done) | (simp[*];done)),H',⟨by have:=HK1.out;omega⟩,⟨by (with_reducible repeat (first | apply Kd.R_alloc | apply Kd.R_drewN | apply Kd.R_drew));exact HO214.out⟩,⟨by repeat (first | (with_reducible first | exact HB.out | apply below_alloc | apply pw_below_drewN | apply below_drew1) | exact HB.out)⟩⟩
     rw[if_neg c7] at H
     exact absurd H (by simp)
    rw[if_neg c6] at H
    have c6b0:decide (x6_1<8)=false:=decide_eq_false c6
    clear c6
    obtain rfl:=Option.some.inj H
    go_wp2
    go_ret
    exact ⟨_,by first | rfl | (simp[errW_none,errW_some] <;> rfl) | (simp[*,errW_none,errW_some] <;> rfl),by (with_reducible repeat (first | apply Kd.R_alloc | apply Kd.R_drewN | apply Kd.R_drew));exact HO_5.out,by repeat (first | (with_reducible first | exact HB.out | apply below_alloc | apply pw_below_drewN | apply below_drew1) | exact HB.out)⟩
   rw[if_neg c5] at H
   have c5b0:decide (x6_1<a1)=false:=decide_eq_false c5
   clear c5
   obtain rfl:=Option.some.inj H
   go_wp2
   go_ret
   exact ⟨_,by first | rfl | (simp[errW_none,errW_some] <;> rfl) | (simp[*,errW_none,errW_some] <;> rfl),by (with_reducible repeat (first | apply Kd.R_alloc | apply Kd.R_drewN | apply Kd.R_drew));exact HO_5.out,by repeat (first | (with_reducible first | exact HB.out | apply below_alloc | apply pw_below_drewN | apply below_drew1) | exact HB.out)⟩
def nepentheref01_Big.f (k:Nat) (a0:Int) (a1:Int):Option (List Int):=(nepentheref01_Little.f k a0 a1).bind fun t215=>((nepentheref01_Back.f k t215).bind fun t218=>(some t218))
set_option maxHeartbeats 8000000 in
set_option maxRecDepth 100000 in
theorem nepentheref01_Big.calls (k:Nat) (a0:Int) (a1:Int) (r:List Int) (w:World) (h:nepentheref01_Big.f k a0 a1=some r) :
  Calls Try.prog 51 #[.int .u64 a0,.int .i64 a1] w fun e w'=>∃ v0_:Value,e=.returned (v0_)∧Kd.R (Kd.int .u8) 5 w' w.heap.size (fun _=>True) v0_ r∧Below w.heap.size w w':=by
 have HB:=Aside0.mk (Below.refl w.heap.size w)
 have H:((nepentheref01_Little.f k a0 a1).bind fun t215=>((nepentheref01_Back.f k t215).bind fun t218=>(some t218)))=some r:=h
 clear h
 replace H:=Option.bind_eq_some_iff.mp H
 obtain ⟨t215,A30,H⟩:=H
 replace H:((nepentheref01_Back.f k t215).bind fun t218=>(some t218))=some r:=H
 have A3:=Aside0.mk A30
 clear A30
 replace H:=Option.bind_eq_some_iff.mp H
 obtain ⟨t218,A40,H⟩:=H
 replace H:(some t218)=some r:=H
 have A4:=Aside0.mk A40
 clear A40
 obtain rfl:=Option.some.inj H
 go_enter Try.func51,Try.ntmps51
 go_wp2_with (first | ((with_reducible refine gate_callee (f:=73) rfl ?_);refine goesL_ (some 7) rfl rfl Try.func73 (by kernel_rfl) rfl #[.int .u64 a0,.int .i64 a1] rfl (by (try simp only[List.map_toArray,List.map_cons,List.map_nil]);first | done | rfl | (simp only[List.length_drop,List.length_take];rfl)) ?_;(with_reducible refine (nepentheref01_Little.calls k a0 a1 t215 _ A3.out).mono ?_);rintro e w5 ⟨v216,rfl,ho0,hb⟩;refine ⟨_,rfl,?_⟩;have n0_:=Aside0.mk (Kd.R_lower ho0 (below_size (by repeat (first | (with_reducible first | exact HB.out | apply below_alloc | apply pw_below_drewN | apply below_drew1) | exact HB.out))));have n1_:=Aside0.mk (below_step (by repeat (first | (with_reducible first | exact HB.out | apply below_alloc | apply pw_below_drewN | apply below_drew1) | exact HB.out)) hb);clear HB;have HO217:=n0_;have HB:=n1_;clear n0_ n1_;(try clear hb);(try clear hb2);(try clear hk);(try clear hi);(try clear ho0);obtain ⟨Ao6,co6,eo6⟩:=Kd.R_slice HO217.out;subst eo6) | ((with_reducible refine gate_callee (f:=72) rfl ?_);refine goesL_ (some 8) rfl rfl Try.func72 (by kernel_rfl) rfl #[.slice Ao6 t215.length co6] rfl (by (try simp only[List.map_toArray,List.map_cons,List.map_nil]);first | done | rfl | (simp only[List.length_drop,List.length_take];rfl)) ?_;(with_reducible refine (nepentheref01_Back.calls k _ _ t215 t218 _ ?side1 ?side2 A4.out).mono ?_);(case side1=>repeat (first | exact (Kd.R_reads' HO217.out).2.2 | (with_reducible refine Kd.C_alloc ?_ _) | (with_reducible refine Kd.C_drewN ?_ _) | (with_reducible refine Kd.C_drew ?_)));(case side2=>exact (Kd.R_reads' HO217.out).2.1);rintro e w7 ⟨v219,rfl,ho0,hb⟩;refine ⟨_,rfl,?_⟩;have n0_:=Aside0.mk (Kd.R_elder' (by (with_reducible repeat (first | apply Kd.R_alloc | apply Kd.R_drewN | apply Kd.R_drew));exact HO217.out) (Kd.R_base ho0) hb);have n1_:=Aside0.mk (Kd.R_lower (Kd.R_new' ho0 (Kd.R_lt (by (with_reducible repeat (first | apply Kd.R_alloc | apply Kd.R_drewN | apply Kd.R_drew));exact HO217.out))) (below_size (by repeat (first | (with_reducible first | exact HB.out | apply below_alloc | apply pw_below_drewN | apply below_drew1) | exact HB.out))));have n2_:=Aside0.mk (below_step (by repeat (first | (with_reducible first | exact HB.out | apply below_alloc | apply pw_below_drewN | apply below_drew1) | exact HB.out)) hb);clear HO217;clear HB;have HO217:=n0_;have HO220:=n1_;have HB:=n2_;clear n0_ n1_ n2_;(try clear hb);(try clear hb2);(try clear hk);(try clear hi);(try clear ho0)))
 go_ret
 exact ⟨_,by first | rfl | (simp[errW_none,errW_some] <;> rfl) | (simp[*,errW_none,errW_some] <;> rfl),by (with_reducible repeat (first | apply Kd.R_alloc | apply Kd.R_drewN | apply Kd.R_drew));exact Kd.R_mono HO220.out (fun _ hk=>trivial),by repeat (first | (with_reducible first | exact HB.out | apply below_alloc | apply pw_below_drewN | apply below_drew1) | exact HB.out)⟩
def nepentheref01_Fill.l0:Nat→Int→Int→List Int→Int→Option (List Int)
 |0,_,_,_,_=>none
 |k+1,x0,x1,x5,x6=>if x6<x1 then (if x6<65536 then (if x5.length<140737488355328 then (nepentheref01_Fill.l0 k x0 x1 (x5 ++ [x0]) (wrap64 (x6+1))) else (none)) else (some x5)) else (some x5)
def nepentheref01_Fill.f (k:Nat) (a0:Int) (a1:Int):Option (List Int):=nepentheref01_Fill.l0 k a0 a1 (([]:List Int)) 0
set_option maxHeartbeats 8000000 in
set_option maxRecDepth 100000 in
theorem nepentheref01_Fill.calls (k:Nat) (a0:Int) (a1:Int) (r:List Int) (w:World) (h:nepentheref01_Fill.f k a0 a1=some r) :
  Calls Try.prog 52 #[.int .u8 a0,.int .i64 a1] w fun e w'=>∃ v0_:Value,e=.returned (v0_)∧Kd.R (Kd.int .u8) 5 w' w.heap.size (fun _=>True) v0_ r∧Below w.heap.size w w':=by
 have HB:=Aside0.mk (Below.refl w.heap.size w)
 have H:(nepentheref01_Fill.l0 k a0 a1 (([]:List Int)) 0)=some r:=h
 clear h
 obtain ⟨y221,hy221⟩:∃ y_:List Int,y_=(([]:List Int)):=⟨_,rfl⟩
 replace H:(nepentheref01_Fill.l0 k a0 a1 y221 0)=some r:=by first | (rw[hy221];with_reducible exact H) | (have H2_:=(Option.bind_some _ _).symm.trans H;rw[hy221];with_reducible exact H2_) | (have H2_:=(Option.bind_some _ _).symm.trans H;with_reducible exact H2_) | with_reducible exact H | (rw[hy221];exact H) | exact H
 have Ny221:=Aside0.mk hy221
 clear hy221
 have H':=Aside0.mk H
 clear H
 go_enter Try.func52,Try.ntmps52
 go_wp2_with (first | ((with_reducible refine gate_dst (N:=7) rfl ?_);refine Kd.R_lit (Kd.int .u8) _ 5 ?hg (N:=7) ?hd (xs:=([]:List Int)) (inner:=[]) (ok:=fun _=>True) (okp:=fun _=>True) ?hr ?hp (fun _ hk=>hk) trivial (Below.refl _ _) (Nat.le_refl _) (by simp) ?_;(case hd=>rfl);(case hg=>rfl);(case hr=>first | (go_simp;done) | (go_simp;rfl) | (go_simp;simp only[IntKind.wrap_u32,Int.emod_add_emod,Int.add_emod_emod]));(case hp=>exact (Reps.none _ _));intro v222 w3 ho4 hb hg_ hnew_;clear hg_ hnew_;(first | rw[← Ny221.out] at ho4 | (simp only[Int.reduceToNat] at ho4;rw[← Ny221.out] at ho4));have n0_:=Aside0.mk (Kd.R_lower ho4 (below_size (by repeat (first | (with_reducible first | exact HB.out | apply below_alloc | apply pw_below_drewN | apply below_drew1) | exact HB.out))));have n1_:=Aside0.mk (below_step (by repeat (first | (with_reducible first | exact HB.out | apply below_alloc | apply pw_below_drewN | apply below_drew1) | exact HB.out)) hb);clear HB;have HO223:=n0_;have HB:=n1_;clear n0_ n1_;clear hb ho4))
 go_loopg [5,6] k (fun kq v5 v6 w'=>∃ (x5_1:List Int) (x6_1:Int),v6=.int .i64 x6_1∧Aside0 (nepentheref01_Fill.l0 kq a0 a1 x5_1 x6_1=some r)∧Aside0 (kq≤k)∧Aside0 (Kd.R (Kd.int .u8) 5 w' w.heap.size (fun _=>True) v5 x5_1)∧Aside0 (Below w.heap.size w w'))
 case atStart=>exact ⟨(y221),(0),(by first | rfl | (simp;done) | (simp[*];done)),H',⟨Nat.le_refl _⟩,⟨by (with_reducible repeat (first | apply Kd.R_alloc | apply Kd.R_drewN | apply Kd.R_drew));exact HO223.out⟩,⟨by repeat (first | (with_reducible first | exact HB.out | apply below_alloc | apply pw_below_drewN | apply below_drew1) | exact HB.out)⟩⟩
 case round=>
  clear H'
  try clear p2
  obtain ⟨x5_1,x6_1,rfl,HA,HK1,HO_5,HB⟩:=hrel
  cases gk with
  |zero=>exact absurd HA.out (by simp[nepentheref01_Fill.l0])
  |succ k1=>
   have H:=HA.out
   clear HA
   simp only[nepentheref01_Fill.l0] at H
   by_cases c5:x6_1<a1
   ·rw[if_pos c5] at H
    have c5b0:decide (x6_1<a1)=true:=decide_eq_true c5
    clear c5
    by_cases c6:x6_1<65536
    ·rw[if_pos c6] at H
     have c6b0:decide (x6_1<65536)=true:=decide_eq_true c6
     clear c6
     by_cases c7:x5_1.length<140737488355328
     ·rw[if_pos c7] at H
      have LMc7:=Aside0.mk c7
      clear c7
      obtain ⟨y224,hy224⟩:∃ y_:List Int,y_=(x5_1 ++ [a0]):=⟨_,rfl⟩
      replace H:(nepentheref01_Fill.l0 k1 a0 a1 y224 (wrap64 (x6_1+1)))=some r:=by first | (rw[hy224];with_reducible exact H) | (have H2_:=(Option.bind_some _ _).symm.trans H;rw[hy224];with_reducible exact H2_) | (have H2_:=(Option.bind_some _ _).symm.trans H;with_reducible exact H2_) | with_reducible exact H | (rw[hy224];exact H) | exact H
      have Ny224:=Aside0.mk hy224
      clear hy224
      have H':=Aside0.mk H
      clear H
      go_wp2_with (first | ((with_reducible refine gate_builtin (b:=.append) (xs:=#[.tmp 17,.tmp 19]) rfl ?_);at_builtin;refine Kd.R_append (Kd.int .u8) (w0:=w) w.heap.size rfl (.tmp 17) (.tmp 19) 23 5 (.int .u8 0) 1 rfl Try.underlying23 info5 rfl (by decide) (by omega) u5 x5_1 a0 [.int .u8 a0] (fun _=>True) (fun _=>False) rfl rfl ?aP (fun _ hk=>hk.elim) ?aF ?aO ?aB ?aS ?aL ?_;(case aP=>exact rfl);(case aB=>exact (by repeat (first | (with_reducible first | exact HB.out | apply below_alloc | apply pw_below_drewN | apply below_drew1) | exact HB.out)));(case aF=>exact (fun _ _=>trivial));(case aO=>exact (by (with_reducible repeat (first | apply Kd.R_alloc | apply Kd.R_drewN | apply Kd.R_drew));exact HO_5.out));(case aS=>exact (below_size (by repeat (first | (with_reducible first | exact HB.out | apply below_alloc | apply pw_below_drewN | apply below_drew1) | exact HB.out))));(case aL=>have:=LMc7.out;omega);intro v225 w8 ho hb hg hat;rw[← Ny224.out] at ho;have n0_:=Aside0.mk (hb);have n1_:=Aside0.mk (ho);clear HB;clear HO_5;have HB:=n0_;have HO226:=n1_;clear n0_ n1_;clear ho hb hg hat))
      go_roundg k1
      case measure=>have:=HK1.out;omega
      case rel=>exact ⟨(y224),(wrap64 (x6_1+1)),(by first | rfl | (simp;done) | (simp[*];done)),H',⟨by have:=HK1.out;omega⟩,⟨by (with_reducible repeat (first | apply Kd.R_alloc | apply Kd.R_drewN | apply Kd.R_drew));exact HO226.out⟩,⟨by repeat (first | (with_reducible first | exact HB.out | apply below_alloc | apply pw_below_drewN | apply below_drew1) | exact HB.out)⟩⟩
     rw[if_neg c7] at H
     exact absurd H (by simp)
    rw[if_neg c6] at H
    have c6b0:decide (x6_1<65536)=false:=decide_eq_false c6
    clear c6
    obtain rfl:=Option.some.inj H
    go_wp2
    go_ret
    exact ⟨_,by first | rfl | (simp[errW_none,errW_some] <;> rfl) | (simp[*,errW_none,errW_some] <;> rfl),by (with_reducible repeat (first | apply Kd.R_alloc | apply Kd.R_drewN | apply Kd.R_drew));exact HO_5.out,by repeat (first | (with_reducible first | exact HB.out | apply below_alloc | apply pw_below_drewN | apply below_drew1) | exact HB.out)⟩
   rw[if_neg c5] at H
   have c5b0:decide (x6_1<a1)=false:=decide_eq_false c5
   clear c5
   obtain rfl:=Option.some.inj H
   go_wp2
   go_ret
   exact ⟨_,by first | rfl | (simp[errW_none,errW_some] <;> rfl) | (simp[*,errW_none,errW_some] <;> rfl),by (with_reducible repeat (first | apply Kd.R_alloc | apply Kd.R_drewN | apply Kd.R_drew));exact HO_5.out,by repeat (first | (with_reducible first | exact HB.out | apply below_alloc | apply pw_below_drewN | apply below_drew1) | exact HB.out)⟩
def nepentheref17_Bytes.f (k:Nat) (a0_0:Bool) (a0_1:Int) (a0_2:Int) (a0_3:Int) (l0_4:List Int):Option (List Int):=if a0_0=true then ((some (([1,0,0,0]:List Int):List Int)).bind fun y228=>((nepentheref01_Big.f k (IntKind.u64.wrap (a0_1)) 4).bind fun t231=>(if y228.length+t231.length<140737488355328 then ((some (y228++t231:List Int)).bind fun y234=>((nepentheref01_Big.f k a0_2 8).bind fun t237=>(if y234.length+t237.length<140737488355328 then ((some (y234++t237:List Int)).bind fun y240=>((nepentheref01_Big.f k a0_3 8).bind fun t243=>(if y240.length+t243.length<140737488355328 then ((some (y240++t243:List Int)).bind fun y246=>(if y246.length+l0_4.length<140737488355328 then (some (y246++l0_4)) else (none))) else (none)))) else (none)))) else (none)))) else ((nepentheref01_Fill.f k 0 128).bind fun t252=>(some t252))
set_option maxHeartbeats 8000000 in
set_option maxRecDepth 100000 in
theorem nepentheref17_Bytes.calls (k:Nat) (a0_0:Bool) (a0_1:Int) (a0_2:Int) (a0_3:Int) (A0_4:Option Addr) (c0_4:Nat) (l0_4:List Int) (r:List Int) (w:World) (hr0_4:Kd.C (Kd.int .u8) w A0_4 l0_4.length l0_4) (hc0_4:l0_4.length≤c0_4) (h:nepentheref17_Bytes.f k a0_0 a0_1 a0_2 a0_3 l0_4=some r) :
  Calls Try.prog 53 #[.agg #[.bool a0_0,.int .i64 a0_1,.int .u64 a0_2,.int .u64 a0_3,.slice A0_4 l0_4.length c0_4]] w fun e w'=>∃ v0_:Value,e=.returned (v0_)∧Kd.R (Kd.int .u8) 5 w' w.heap.size (fun _=>True) v0_ r∧Below w.heap.size w w':=by
 have hu36:=Try.underlying36
 have HR0_4:=Aside0.mk hr0_4
 have HC0_4:=Aside0.mk hc0_4
 clear hr0_4 hc0_4
 have HB:=Aside0.mk (Below.refl w.heap.size w)
 have H:(if a0_0=true then ((some (([1,0,0,0]:List Int):List Int)).bind fun y228=>((nepentheref01_Big.f k (IntKind.u64.wrap (a0_1)) 4).bind fun t231=>(if y228.length+t231.length<140737488355328 then ((some (y228++t231:List Int)).bind fun y234=>((nepentheref01_Big.f k a0_2 8).bind fun t237=>(if y234.length+t237.length<140737488355328 then ((some (y234++t237:List Int)).bind fun y240=>((nepentheref01_Big.f k a0_3 8).bind fun t243=>(if y240.length+t243.length<140737488355328 then ((some (y240++t243:List Int)).bind fun y246=>(if y246.length+l0_4.length<140737488355328 then (some (y246++l0_4)) else (none))) else (none)))) else (none)))) else (none)))) else ((nepentheref01_Fill.f k 0 128).bind fun t252=>(some t252)))=some r:=h
 clear h
 by_cases c2:a0_0=true
 ·subst c2
  have H1:((some (([1,0,0,0]:List Int):List Int)).bind fun y228=>((nepentheref01_Big.f k (IntKind.u64.wrap (a0_1)) 4).bind fun t231=>(if y228.length+t231.length<140737488355328 then ((some (y228++t231:List Int)).bind fun y234=>((nepentheref01_Big.f k a0_2 8).bind fun t237=>(if y234.length+t237.length<140737488355328 then ((some (y234++t237:List Int)).bind fun y240=>((nepentheref01_Big.f k a0_3 8).bind fun t243=>(if y240.length+t243.length<140737488355328 then ((some (y240++t243:List Int)).bind fun y246=>(if y246.length+l0_4.length<140737488355328 then (some (y246++l0_4)) else (none))) else (none)))) else (none)))) else (none))))=some r:=by rw[if_pos rfl] at H;exact H
  clear H
  have H:=H1
  clear H1
  obtain ⟨y228,hy228⟩:∃ y_:List Int,y_=(([1,0,0,0]:List Int)):=⟨_,rfl⟩
  replace H:((nepentheref01_Big.f k (IntKind.u64.wrap (a0_1)) 4).bind fun t231=>(if y228.length+t231.length<140737488355328 then ((some (y228++t231:List Int)).bind fun y234=>((nepentheref01_Big.f k a0_2 8).bind fun t237=>(if y234.length+t237.length<140737488355328 then ((some (y234++t237:List Int)).bind fun y240=>((nepentheref01_Big.f k a0_3 8).bind fun t243=>(if y240.length+t243.length<140737488355328 then ((some (y240++t243:List Int)).bind fun y246=>(if y246.length+l0_4.length<140737488355328 then (some (y246++l0_4)) else (none))) else (none)))) else (none)))) else (none)))=some r:=by first | (rw[hy228];with_reducible exact H) | (have H2_:=(Option.bind_some _ _).symm.trans H;rw[hy228];with_reducible exact H2_) | (have H2_:=(Option.bind_some _ _).symm.trans H;with_reducible exact H2_) | with_reducible exact H | (rw[hy228];exact H) | exact H
  have Ny228:=Aside0.mk hy228
  clear hy228
  replace H:=Option.bind_eq_some_iff.mp H
  obtain ⟨t231,A30,H⟩:=H
  replace H:(if y228.length+t231.length<140737488355328 then ((some (y228++t231:List Int)).bind fun y234=>((nepentheref01_Big.f k a0_2 8).bind fun t237=>(if y234.length+t237.length<140737488355328 then ((some (y234++t237:List Int)).bind fun y240=>((nepentheref01_Big.f k a0_3 8).bind fun t243=>(if y240.length+t243.length<140737488355328 then ((some (y240++t243:List Int)).bind fun y246=>(if y246.length+l0_4.length<140737488355328 then (some (y246++l0_4)) else (none))) else (none)))) else (none)))) else (none))=some r:=H
  have A3:=Aside0.mk A30
  clear A30
  by_cases c4:y228.length+t231.length<140737488355328
  ·rw[if_pos c4] at H
   have LMc4:=Aside0.mk c4
   clear c4
   obtain ⟨y234,hy234⟩:∃ y_:List Int,y_=(y228++t231):=⟨_,rfl⟩
   replace H:((nepentheref01_Big.f k a0_2 8).bind fun t237=>(if y234.length+t237.length<140737488355328 then ((some (y234++t237:List Int)).bind fun y240=>((nepentheref01_Big.f k a0_3 8).bind fun t243=>(if y240.length+t243.length<140737488355328 then ((some (y240++t243:List Int)).bind fun y246=>(if y246.length+l0_4.length<140737488355328 then (some (y246++l0_4)) else (none))) else (none)))) else (none)))=some r:=by first | (rw[hy234];with_reducible exact H) | (have H2_:=(Option.bind_some _ _).symm.trans H;rw[hy234];with_reducible exact H2_) | (have H2_:=(Option.bind_some _ _).symm.trans H;with_reducible exact H2_) | with_reducible exact H | (rw[hy234];exact H) | exact H
   have Ny234:=Aside0.mk hy234
   clear hy234
   replace H:=Option.bind_eq_some_iff.mp H
   obtain ⟨t237,A50,H⟩:=H
   replace H:(if y234.length+t237.length<140737488355328 then ((some (y234++t237:List Int)).bind fun y240=>((nepentheref01_Big.f k a0_3 8).bind fun t243=>(if y240.length+t243.length<140737488355328 then ((some (y240++t243:List Int)).bind fun y246=>(if y246.length+l0_4.length<140737488355328 then (some (y246++l0_4)) else (none))) else (none)))) else (none))=some r:=H
   have A5:=Aside0.mk A50
   clear A50
   by_cases c6:y234.length+t237.length<140737488355328
   ·rw[if_pos c6] at H
    have LMc6:=Aside0.mk c6
    clear c6
    obtain ⟨y240,hy240⟩:∃ y_:List Int,y_=(y234++t237):=⟨_,rfl⟩
    replace H:((nepentheref01_Big.f k a0_3 8).bind fun t243=>(if y240.length+t243.length<140737488355328 then ((some (y240++t243:List Int)).bind fun y246=>(if y246.length+l0_4.length<140737488355328 then (some (y246++l0_4)) else (none))) else (none)))=some r:=by first | (rw[hy240];with_reducible exact H) | (have H2_:=(Option.bind_some _ _).symm.trans H;rw[hy240];with_reducible exact H2_) | (have H2_:=(Option.bind_some _ _).symm.trans H;with_reducible exact H2_) | with_reducible exact H | (rw[hy240];exact H) | exact H
    have Ny240:=Aside0.mk hy240
    clear hy240
    replace H:=Option.bind_eq_some_iff.mp H
    obtain ⟨t243,A70,H⟩:=H
    replace H:(if y240.length+t243.length<140737488355328 then ((some (y240++t243:List Int)).bind fun y246=>(if y246.length+l0_4.length<140737488355328 then (some (y246++l0_4)) else (none))) else (none))=some r:=H
    have A7:=Aside0.mk A70
    clear A70
    by_cases c8:y240.length+t243.length<140737488355328
    ·rw[if_pos c8] at H
     have LMc8:=Aside0.mk c8
     clear c8
     obtain ⟨y246,hy246⟩:∃ y_:List Int,y_=(y240++t243):=⟨_,rfl⟩
     replace H:(if y246.length+l0_4.length<140737488355328 then (some (y246++l0_4)) else (none))=some r:=by first | (rw[hy246];with_reducible exact H) | (have H2_:=(Option.bind_some _ _).symm.trans H;rw[hy246];with_reducible exact H2_) | (have H2_:=(Option.bind_some _ _).symm.trans H;with_reducible exact H2_) | with_reducible exact H | (rw[hy246];exact H) | exact H
     have Ny246:=Aside0.mk hy246
     clear hy246
     by_cases c9:y246.length+l0_4.length<140737488355328
     ·rw[if_pos c9] at H
      have LMc9:=Aside0.mk c9
      clear c9
      obtain ⟨y249,hy249⟩:∃ y_:List Int,y_=(y246++l0_4):=⟨_,rfl⟩
      replace H:(some y249)=some r:=by first | (rw[hy249];with_reducible exact H) | (have H2_:=(Option.bind_some _ _).symm.trans H;rw[hy249];with_reducible exact H2_) | (have H2_:=(Option.bind_some _ _).symm.trans H;with_reducible exact H2_) | with_reducible exact H | (rw[hy249];exact H) | exact H
      have Ny249:=Aside0.mk hy249
      clear hy249
      obtain rfl:=Option.some.inj H
      go_enter Try.func53,Try.ntmps53
      go_wp2_with (first | ((with_reducible refine gate_dst (N:=1) rfl ?_);refine box_event ?hg (N:=1) ?hd (cs:=#[.bool true,.int .i64 a0_1,.int .u64 a0_2,.int .u64 a0_3,.slice A0_4 l0_4.length c0_4]) (t:=36) ?hr ?_;(case hd=>rfl);(case hg=>rfl);(case hr=>first | (go_simp;done) | (go_simp;rfl) | (go_simp;simp only[IntKind.wrap_u32,Int.emod_add_emod,Int.add_emod_emod]));intro gb227 hg w10 hbox hb;have n0_:=Aside0.mk (below_step (by repeat (first | (with_reducible first | exact HB.out | apply below_alloc | apply pw_below_drewN | apply below_drew1) | exact HB.out)) hb);have n1_:=Aside0.mk (hbox);have n2_:=Aside0.mk ((by rw[hg];exact (below_size (by repeat (first | (with_reducible first | exact HB.out | apply below_alloc | apply pw_below_drewN | apply below_drew1) | exact HB.out))):w.heap.size≤gb227));have n3_:=Aside0.mk ((by rw[hg];exact (below_size (by repeat (first | (with_reducible first | exact HB.out | apply below_alloc | apply pw_below_drewN | apply below_drew1) | exact HB.out))):w.heap.size≤gb227));clear HB;have HB:=n0_;have BK227:=n1_;have GW227:=n2_;have GE227:=n3_;clear n0_ n1_ n2_ n3_;clear hb hbox hg;have hcz11_0:w10.cell? ⟨gb227,0,none⟩=some (.bool true):=(blk_cell BK227.out 0).trans rfl;have hcz11_1:w10.cell? ⟨gb227,1,none⟩=some (.int .i64 a0_1):=(blk_cell BK227.out 1).trans rfl;have hcz11_2:w10.cell? ⟨gb227,2,none⟩=some (.int .u64 a0_2):=(blk_cell BK227.out 2).trans rfl;have hcz11_3:w10.cell? ⟨gb227,3,none⟩=some (.int .u64 a0_3):=(blk_cell BK227.out 3).trans rfl;have hcz11_4:w10.cell? ⟨gb227,4,none⟩=some (.slice A0_4 l0_4.length c0_4):=(blk_cell BK227.out 4).trans rfl;have hfz11_0:=blk_frozen BK227.out 0;have hfz11_1:=blk_frozen BK227.out 1;have hfz11_2:=blk_frozen BK227.out 2;have hfz11_3:=blk_frozen BK227.out 3;have hfz11_4:=blk_frozen BK227.out 4) | ((with_reducible refine gate_dst (N:=8) rfl ?_);refine Kd.R_lit (Kd.int .u8) _ 5 ?hg (N:=8) ?hd (xs:=([1,0,0,0]:List Int)) (inner:=[.int .u8 1,.int .u8 0,.int .u8 0,.int .u8 0]) (ok:=fun _=>True) (okp:=fun _=>True) ?hr ?hp (fun _ hk=>hk) trivial (Below.refl _ _) (Nat.le_refl _) (by simp) ?_;(case hd=>rfl);(case hg=>rfl);(case hr=>first | (go_simp;done) | (go_simp;rfl) | (go_simp;simp only[IntKind.wrap_u32,Int.emod_add_emod,Int.add_emod_emod]));(case hp=>exact (Reps.one (show Kd.M (Kd.int .u8) _ _ _ 1 [.int .u8 1] from rfl) (Reps.one (show Kd.M (Kd.int .u8) _ _ _ 0 [.int .u8 0] from rfl) (Reps.one (show Kd.M (Kd.int .u8) _ _ _ 0 [.int .u8 0] from rfl) (Reps.one (show Kd.M (Kd.int .u8) _ _ _ 0 [.int .u8 0] from rfl) (Reps.none _ _))))));intro v229 w12 ho13 hb hg_ hnew_;clear hg_ hnew_;(first | rw[← Ny228.out] at ho13 | (simp only[Int.reduceToNat] at ho13;rw[← Ny228.out] at ho13));have n0_:=Aside0.mk (Kd.R_lower ho13 (below_size (by repeat (first | (with_reducible first | exact HB.out | apply below_alloc | apply pw_below_drewN | apply below_drew1 | refine below_set ?_ GE227.out) | exact HB.out))));have n1_:=Aside0.mk (blk_below (g:=gb227) (o:=.cells #[.bool true,.int .i64 a0_1,.int .u64 a0_2,.int .u64 a0_3,.slice A0_4 l0_4.length c0_4] 36 (0,0)) (by (with_reducible repeat (first | refine blk_drewN ?_ _ | refine blk_drew ?_ | refine blk_alloc ?_ _));exact BK227.out) hb);have n2_:=Aside0.mk (below_step (by repeat (first | (with_reducible first | exact HB.out | apply below_alloc | apply pw_below_drewN | apply below_drew1 | refine below_set ?_ GE227.out) | exact HB.out)) hb);clear BK227;clear HB;have HO230:=n0_;have BK227:=n1_;have HB:=n2_;clear n0_ n1_ n2_;clear hb ho13;have hcz14_0:w12.cell? ⟨gb227,0,none⟩=some (.bool true):=(blk_cell BK227.out 0).trans rfl;have hcz14_1:w12.cell? ⟨gb227,1,none⟩=some (.int .i64 a0_1):=(blk_cell BK227.out 1).trans rfl;have hcz14_2:w12.cell? ⟨gb227,2,none⟩=some (.int .u64 a0_2):=(blk_cell BK227.out 2).trans rfl;have hcz14_3:w12.cell? ⟨gb227,3,none⟩=some (.int .u64 a0_3):=(blk_cell BK227.out 3).trans rfl;have hcz14_4:w12.cell? ⟨gb227,4,none⟩=some (.slice A0_4 l0_4.length c0_4):=(blk_cell BK227.out 4).trans rfl;have hfz14_0:=blk_frozen BK227.out 0;have hfz14_1:=blk_frozen BK227.out 1;have hfz14_2:=blk_frozen BK227.out 2;have hfz14_3:=blk_frozen BK227.out 3;have hfz14_4:=blk_frozen BK227.out 4) | ((with_reducible refine gate_callee (f:=51) rfl ?_);refine goesL_ (some 12) rfl rfl Try.func51 (by kernel_rfl) rfl #[.int .u64 (IntKind.u64.wrap (a0_1)),.int .i64 4] rfl (by (try simp only[List.map_toArray,List.map_cons,List.map_nil]);first | done | rfl | (simp only[List.length_drop,List.length_take];rfl)) ?_;(with_reducible refine (nepentheref01_Big.calls k (IntKind.u64.wrap (a0_1)) 4 t231 _ A3.out).mono ?_);rintro e w15 ⟨v232,rfl,ho0,hb⟩;refine ⟨_,rfl,?_⟩;have n0_:=Aside0.mk (Kd.R_elder' (by (with_reducible repeat (first | apply Kd.R_alloc | apply Kd.R_drewN | apply Kd.R_drew));exact HO230.out) (Kd.R_base ho0) hb);have n1_:=Aside0.mk (Kd.R_lower (Kd.R_new' ho0 (Kd.R_lt (by (with_reducible repeat (first | apply Kd.R_alloc | apply Kd.R_drewN | apply Kd.R_drew));exact HO230.out))) (below_size (by repeat (first | (with_reducible first | exact HB.out | apply below_alloc | apply pw_below_drewN | apply below_drew1 | refine below_set ?_ GE227.out) | exact HB.out))));have n2_:=Aside0.mk (blk_below (g:=gb227) (o:=.cells #[.bool true,.int .i64 a0_1,.int .u64 a0_2,.int .u64 a0_3,.slice A0_4 l0_4.length c0_4] 36 (0,0)) (by (with_reducible repeat (first | refine blk_drewN ?_ _ | refine blk_drew ?_ | refine blk_alloc ?_ _));exact BK227.out) hb);have n3_:=Aside0.mk (below_step (by repeat (first | (with_reducible first | exact HB.out | apply below_alloc | apply pw_below_drewN | apply below_drew1 | refine below_set ?_ GE227.out) | exact HB.out)) hb);clear HO230;clear BK227;clear HB;have HO230:=n0_;have HO233:=n1_;have BK227:=n2_;have HB:=n3_;clear n0_ n1_ n2_ n3_;(try clear hb);(try clear hb2);(try clear hk);(try clear hi);(try clear ho0);obtain ⟨Ao17,co17,eo17⟩:=Kd.R_slice HO233.out;subst eo17) | ((with_reducible refine gate_builtin (b:=.append) (xs:=#[.tmp 8,.tmp 12]) rfl ?_);at_builtin;refine Kd.R_append_rows (Kd.int .u8) (w0:=w) w.heap.size rfl (.tmp 8) (.tmp 12) 23 5 (.int .u8 0) 1 rfl Try.underlying23 info5 rfl (by decide) (by omega) v229 y228 t231 _ _ _ (fun k_=>some k_≠(.slice Ao17 t231.length co17:Value).ownBlock) (fun _=>False) rfl rfl ?aO ?aR (fun _ _ h=>h) (fun _ h=>h.elim) ?aF ?aB ?aS ?aL ?_;(case aR=>repeat (first | exact (Kd.R_reads' HO233.out).2.2 | (with_reducible refine Kd.C_alloc ?_ _) | (with_reducible refine Kd.C_drewN ?_ _) | (with_reducible refine Kd.C_drew ?_)));(case aB=>exact (by repeat (first | (with_reducible first | exact HB.out | apply below_alloc | apply pw_below_drewN | apply below_drew1 | refine below_set ?_ GE227.out) | exact HB.out)));(case aF=>exact (fun k_ hk=>Kd.fresh' (Kd.R_lt (by (with_reducible repeat (first | apply Kd.R_alloc | apply Kd.R_drewN | apply Kd.R_drew));exact HO233.out)) k_ hk));(case aO=>exact (by (with_reducible repeat (first | apply Kd.R_alloc | apply Kd.R_drewN | apply Kd.R_drew));exact Kd.R_mono HO230.out (fun _ hk=>by first | exact hk.2 | trivial)));(case aS=>exact (below_size (by repeat (first | (with_reducible first | exact HB.out | apply below_alloc | apply pw_below_drewN | apply below_drew1 | refine below_set ?_ GE227.out) | exact HB.out))));(case aL=>have:=LMc4.out;omega);intro v235 w16 ho hb hg hat;rw[← Ny234.out] at ho;have n0_:=Aside0.mk (blk_grown (g:=gb227) (o:=.cells #[.bool true,.int .i64 a0_1,.int .u64 a0_2,.int .u64 a0_3,.slice A0_4 l0_4.length c0_4] 36 (0,0)) (by (with_reducible repeat (first | refine blk_drewN ?_ _ | refine blk_drew ?_ | refine blk_alloc ?_ _));exact BK227.out) hg (Kd.R_ne HO230.out BK227.out (by decide)));have n1_:=Aside0.mk (Kd.R_after (ok:=(fun _=>True)) (by (with_reducible repeat (first | apply Kd.R_alloc | apply Kd.R_drewN | apply Kd.R_drew));exact HO233.out) hg hat);have n2_:=Aside0.mk (hb);have n3_:=Aside0.mk (ho);clear BK227;clear HO233;clear HB;clear HO230;have BK227:=n0_;have HO233:=n1_;have HB:=n2_;have HO236:=n3_;clear n0_ n1_ n2_ n3_;clear ho hb hg hat;have hcz18_0:w16.cell? ⟨gb227,0,none⟩=some (.bool true):=(blk_cell BK227.out 0).trans rfl;have hcz18_1:w16.cell? ⟨gb227,1,none⟩=some (.int .i64 a0_1):=(blk_cell BK227.out 1).trans rfl;have hcz18_2:w16.cell? ⟨gb227,2,none⟩=some (.int .u64 a0_2):=(blk_cell BK227.out 2).trans rfl;have hcz18_3:w16.cell? ⟨gb227,3,none⟩=some (.int .u64 a0_3):=(blk_cell BK227.out 3).trans rfl;have hcz18_4:w16.cell? ⟨gb227,4,none⟩=some (.slice A0_4 l0_4.length c0_4):=(blk_cell BK227.out 4).trans rfl;have hfz18_0:=blk_frozen BK227.out 0;have hfz18_1:=blk_frozen BK227.out 1;have hfz18_2:=blk_frozen BK227.out 2;have hfz18_3:=blk_frozen BK227.out 3;have hfz18_4:=blk_frozen BK227.out 4) | ((with_reducible refine gate_callee (f:=51) rfl ?_);refine goesL_ (some 17) rfl rfl Try.func51 (by kernel_rfl) rfl #[.int .u64 a0_2,.int .i64 8] rfl (by (try simp only[List.map_toArray,List.map_cons,List.map_nil]);first | done | rfl | (simp only[List.length_drop,List.length_take];rfl)) ?_;(with_reducible refine (nepentheref01_Big.calls k a0_2 8 t237 _ A5.out).mono ?_);rintro e w19 ⟨v238,rfl,ho0,hb⟩;refine ⟨_,rfl,?_⟩;have n0_:=Aside0.mk (Kd.R_elder' (by (with_reducible repeat (first | apply Kd.R_alloc | apply Kd.R_drewN | apply Kd.R_drew));exact HO233.out) (Kd.R_base ho0) hb);have n1_:=Aside0.mk (Kd.R_elder' (by (with_reducible repeat (first | apply Kd.R_alloc | apply Kd.R_drewN | apply Kd.R_drew));exact HO236.out) (Kd.R_base ho0) hb);have n2_:=Aside0.mk (Kd.R_lower (Kd.R_new' (Kd.R_new' ho0 (Kd.R_lt (by (with_reducible repeat (first | apply Kd.R_alloc | apply Kd.R_drewN | apply Kd.R_drew));exact HO233.out))) (Kd.R_lt (by (with_reducible repeat (first | apply Kd.R_alloc | apply Kd.R_drewN | apply Kd.R_drew));exact HO236.out))) (below_size (by repeat (first | (with_reducible first | exact HB.out | apply below_alloc | apply pw_below_drewN | apply below_drew1 | refine below_set ?_ GE227.out) | exact HB.out))));have n3_:=Aside0.mk (blk_below (g:=gb227) (o:=.cells #[.bool true,.int .i64 a0_1,.int .u64 a0_2,.int .u64 a0_3,.slice A0_4 l0_4.length c0_4] 36 (0,0)) (by (with_reducible repeat (first | refine blk_drewN ?_ _ | refine blk_drew ?_ | refine blk_alloc ?_ _));exact BK227.out) hb);have n4_:=Aside0.mk (below_step (by repeat (first | (with_reducible first | exact HB.out | apply below_alloc | apply pw_below_drewN | apply below_drew1 | refine below_set ?_ GE227.out) | exact HB.out)) hb);clear HO233;clear HO236;clear BK227;clear HB;have HO233:=n0_;have HO236:=n1_;have HO239:=n2_;have BK227:=n3_;have HB:=n4_;clear n0_ n1_ n2_ n3_ n4_;(try clear hb);(try clear hb2);(try clear hk);(try clear hi);(try clear ho0);obtain ⟨Ao21,co21,eo21⟩:=Kd.R_slice HO239.out;subst eo21) | ((with_reducible refine gate_builtin (b:=.append) (xs:=#[.tmp 14,.tmp 17]) rfl ?_);at_builtin;refine Kd.R_append_rows (Kd.int .u8) (w0:=w) w.heap.size rfl (.tmp 14) (.tmp 17) 23 5 (.int .u8 0) 1 rfl Try.underlying23 info5 rfl (by decide) (by omega) v235 y234 t237 _ _ _ (fun k_=>some k_≠(.slice Ao17 t231.length co17:Value).ownBlock∧some k_≠(.slice Ao21 t237.length co21:Value).ownBlock) (fun _=>False) rfl rfl ?aO ?aR (fun _ _ h=>h) (fun _ h=>h.elim) ?aF ?aB ?aS ?aL ?_;(case aR=>repeat (first | exact (Kd.R_reads' HO239.out).2.2 | (with_reducible refine Kd.C_alloc ?_ _) | (with_reducible refine Kd.C_drewN ?_ _) | (with_reducible refine Kd.C_drew ?_)));(case aB=>exact (by repeat (first | (with_reducible first | exact HB.out | apply below_alloc | apply pw_below_drewN | apply below_drew1 | refine below_set ?_ GE227.out) | exact HB.out)));(case aF=>exact (fun k_ hk=>⟨Kd.fresh' (Kd.R_lt (by (with_reducible repeat (first | apply Kd.R_alloc | apply Kd.R_drewN | apply Kd.R_drew));exact HO233.out)) k_ hk,Kd.fresh' (Kd.R_lt (by (with_reducible repeat (first | apply Kd.R_alloc | apply Kd.R_drewN | apply Kd.R_drew));exact HO239.out)) k_ hk⟩));(case aO=>exact (by (with_reducible repeat (first | apply Kd.R_alloc | apply Kd.R_drewN | apply Kd.R_drew));exact HO236.out));(case aS=>exact (below_size (by repeat (first | (with_reducible first | exact HB.out | apply below_alloc | apply pw_below_drewN | apply below_drew1 | refine below_set ?_ GE227.out) | exact HB.out))));(case aL=>have:=LMc6.out;omega);intro v241 w20 ho hb hg hat;rw[← Ny240.out] at ho;have n0_:=Aside0.mk (blk_grown (g:=gb227) (o:=.cells #[.bool true,.int .i64 a0_1,.int .u64 a0_2,.int .u64 a0_3,.slice A0_4 l0_4.length c0_4] 36 (0,0)) (by (with_reducible repeat (first | refine blk_drewN ?_ _ | refine blk_drew ?_ | refine blk_alloc ?_ _));exact BK227.out) hg (Kd.R_ne HO236.out BK227.out (by decide)));have n1_:=Aside0.mk (Kd.R_after (ok:=(fun k_=>some k_≠(.slice Ao21 t237.length co21:Value).ownBlock)) (by (with_reducible repeat (first | apply Kd.R_alloc | apply Kd.R_drewN | apply Kd.R_drew));exact Kd.R_mono HO233.out (fun _ hk=>⟨hk.2,hk.1.2⟩)) hg hat);have n2_:=Aside0.mk (Kd.R_after (ok:=(fun k_=>some k_≠(.slice Ao17 t231.length co17:Value).ownBlock)) (by (with_reducible repeat (first | apply Kd.R_alloc | apply Kd.R_drewN | apply Kd.R_drew));exact Kd.R_mono HO239.out (fun _ hk=>⟨hk.1.2,hk.2⟩)) hg hat);have n3_:=Aside0.mk (hb);have n4_:=Aside0.mk (ho);clear BK227;clear HO233;clear HO239;clear HB;clear HO236;have BK227:=n0_;have HO233:=n1_;have HO239:=n2_;have HB:=n3_;have HO242:=n4_;clear n0_ n1_ n2_ n3_ n4_;clear ho hb hg hat;have hcz22_0:w20.cell? ⟨gb227,0,none⟩=some (.bool true):=(blk_cell BK227.out 0).trans rfl;have hcz22_1:w20.cell? ⟨gb227,1,none⟩=some (.int .i64 a0_1):=(blk_cell BK227.out 1).trans rfl;have hcz22_2:w20.cell? ⟨gb227,2,none⟩=some (.int .u64 a0_2):=(blk_cell BK227.out 2).trans rfl;have hcz22_3:w20.cell? ⟨gb227,3,none⟩=some (.int .u64 a0_3):=(blk_cell BK227.out 3).trans rfl;have hcz22_4:w20.cell? ⟨gb227,4,none⟩=some (.slice A0_4 l0_4.length c0_4):=(blk_cell BK227.out 4).trans rfl;have hfz22_0:=blk_frozen BK227.out 0;have hfz22_1:=blk_frozen BK227.out 1;have hfz22_2:=blk_frozen BK227.out 2;have hfz22_3:=blk_frozen BK227.out 3;have hfz22_4:=blk_frozen BK227.out 4) | ((with_reducible refine gate_callee (f:=51) rfl ?_);refine goesL_ (some 22) rfl rfl Try.func51 (by kernel_rfl) rfl #[.int .u64 a0_3,.int .i64 8] rfl (by (try simp only[List.map_toArray,List.map_cons,List.map_nil]);first | done | rfl | (simp only[List.length_drop,List.length_take];rfl)) ?_;(with_reducible refine (nepentheref01_Big.calls k a0_3 8 t243 _ A7.out).mono ?_);rintro e w23 ⟨v244,rfl,ho0,hb⟩;refine ⟨_,rfl,?_⟩;have n0_:=Aside0.mk (Kd.R_elder' (by (with_reducible repeat (first | apply Kd.R_alloc | apply Kd.R_drewN | apply Kd.R_drew));exact HO233.out) (Kd.R_base ho0) hb);have n1_:=Aside0.mk (Kd.R_elder' (by (with_reducible repeat (first | apply Kd.R_alloc | apply Kd.R_drewN | apply Kd.R_drew));exact HO239.out) (Kd.R_base ho0) hb);have n2_:=Aside0.mk (Kd.R_elder' (by (with_reducible repeat (first | apply Kd.R_alloc | apply Kd.R_drewN | apply Kd.R_drew));exact HO242.out) (Kd.R_base ho0) hb);have n3_:=Aside0.mk (Kd.R_lower (Kd.R_new' (Kd.R_new' (Kd.R_new' ho0 (Kd.R_lt (by (with_reducible repeat (first | apply Kd.R_alloc | apply Kd.R_drewN | apply Kd.R_drew));exact HO233.out))) (Kd.R_lt (by (with_reducible repeat (first | apply Kd.R_alloc | apply Kd.R_drewN | apply Kd.R_drew));exact HO239.out))) (Kd.R_lt (by (with_reducible repeat (first | apply Kd.R_alloc | apply Kd.R_drewN | apply Kd.R_drew));exact HO242.out))) (below_size (by repeat (first | (with_reducible first | exact HB.out | apply below_alloc | apply pw_below_drewN | apply below_drew1 | refine below_set ?_ GE227.out) | exact HB.out))));have n4_:=Aside0.mk (blk_below (g:=gb227) (o:=.cells #[.bool true,.int .i64 a0_1,.int .u64 a0_2,.int .u64 a0_3,.slice A0_4 l0_4.length c0_4] 36 (0,0)) (by (with_reducible repeat (first | refine blk_drewN ?_ _ | refine blk_drew ?_ | refine blk_alloc ?_ _));exact BK227.out) hb);have n5_:=Aside0.mk (below_step (by repeat (first | (with_reducible first | exact HB.out | apply below_alloc | apply pw_below_drewN | apply below_drew1 | refine below_set ?_ GE227.out) | exact HB.out)) hb);clear HO233;clear HO239;clear HO242;clear BK227;clear HB;have HO233:=n0_;have HO239:=n1_;have HO242:=n2_;have HO245:=n3_;have BK227:=n4_;have HB:=n5_;clear n0_ n1_ n2_ n3_ n4_ n5_;(try clear hb);(try clear hb2);(try clear hk);(try clear hi);(try clear ho0);obtain ⟨Ao25,co25,eo25⟩:=Kd.R_slice HO245.out;subst eo25) | ((with_reducible refine gate_builtin (b:=.append) (xs:=#[.tmp 19,.tmp 22]) rfl ?_);at_builtin;refine Kd.R_append_rows (Kd.int .u8) (w0:=w) w.heap.size rfl (.tmp 19) (.tmp 22) 23 5 (.int .u8 0) 1 rfl Try.underlying23 info5 rfl (by decide) (by omega) v241 y240 t243 _ _ _ (fun k_=>some k_≠(.slice Ao17 t231.length co17:Value).ownBlock∧some k_≠(.slice Ao21 t237.length co21:Value).ownBlock∧some k_≠(.slice Ao25 t243.length co25:Value).ownBlock) (fun _=>False) rfl rfl ?aO ?aR (fun _ _ h=>h) (fun _ h=>h.elim) ?aF ?aB ?aS ?aL ?_;(case aR=>repeat (first | exact (Kd.R_reads' HO245.out).2.2 | (with_reducible refine Kd.C_alloc ?_ _) | (with_reducible refine Kd.C_drewN ?_ _) | (with_reducible refine Kd.C_drew ?_)));(case aB=>exact (by repeat (first | (with_reducible first | exact HB.out | apply below_alloc | apply pw_below_drewN | apply below_drew1 | refine below_set ?_ GE227.out) | exact HB.out)));(case aF=>exact (fun k_ hk=>⟨Kd.fresh' (Kd.R_lt (by (with_reducible repeat (first | apply Kd.R_alloc | apply Kd.R_drewN | apply Kd.R_drew));exact HO233.out)) k_ hk,Kd.fresh' (Kd.R_lt (by (with_reducible repeat (first | apply Kd.R_alloc | apply Kd.R_drewN | apply Kd.R_drew));exact HO239.out)) k_ hk,Kd.fresh' (Kd.R_lt (by (with_reducible repeat (first | apply Kd.R_alloc | apply Kd.R_drewN | apply Kd.R_drew));exact HO245.out)) k_ hk⟩));(case aO=>exact (by (with_reducible repeat (first | apply Kd.R_alloc | apply Kd.R_drewN | apply Kd.R_drew));exact Kd.R_mono HO242.out (fun _ hk=>⟨hk.1.1,⟨hk.1.2,hk.2⟩⟩)));(case aS=>exact (below_size (by repeat (first | (with_reducible first | exact HB.out | apply below_alloc | apply pw_below_drewN | apply below_drew1 | refine below_set ?_ GE227.out) | exact HB.out))));(case aL=>have:=LMc8.out;omega);intro v247 w24 ho hb hg hat;rw[← Ny246.out] at ho;have n0_:=Aside0.mk (blk_grown (g:=gb227) (o:=.cells #[.bool true,.int .i64 a0_1,.int .u64 a0_2,.int .u64 a0_3,.slice A0_4 l0_4.length c0_4] 36 (0,0)) (by (with_reducible repeat (first | refine blk_drewN ?_ _ | refine blk_drew ?_ | refine blk_alloc ?_ _));exact BK227.out) hg (Kd.R_ne HO242.out BK227.out (by decide)));have n1_:=Aside0.mk (Kd.R_after (ok:=(fun k_=>some k_≠(.slice Ao21 t237.length co21:Value).ownBlock∧some k_≠(.slice Ao25 t243.length co25:Value).ownBlock)) (by (with_reducible repeat (first | apply Kd.R_alloc | apply Kd.R_drewN | apply Kd.R_drew));exact Kd.R_mono HO233.out (fun _ hk=>⟨⟨hk.1.1,hk.2⟩,hk.1.2⟩)) hg hat);have n2_:=Aside0.mk (Kd.R_after (ok:=(fun k_=>some k_≠(.slice Ao17 t231.length co17:Value).ownBlock∧some k_≠(.slice Ao25 t243.length co25:Value).ownBlock)) (by (with_reducible repeat (first | apply Kd.R_alloc | apply Kd.R_drewN | apply Kd.R_drew));exact Kd.R_mono HO239.out (fun _ hk=>⟨⟨hk.1.1,hk.2⟩,hk.1.2⟩)) hg hat);have n3_:=Aside0.mk (Kd.R_after (ok:=(fun k_=>some k_≠(.slice Ao17 t231.length co17:Value).ownBlock∧some k_≠(.slice Ao21 t237.length co21:Value).ownBlock)) (by (with_reducible repeat (first | apply Kd.R_alloc | apply Kd.R_drewN | apply Kd.R_drew));exact Kd.R_mono HO245.out (fun _ hk=>⟨⟨hk.1.1.2,hk.1.2⟩,hk.2⟩)) hg hat);have n4_:=Aside0.mk (hb);have n5_:=Aside0.mk (ho);clear BK227;clear HO233;clear HO239;clear HO245;clear HB;clear HO242;have BK227:=n0_;have HO233:=n1_;have HO239:=n2_;have HO245:=n3_;have HB:=n4_;have HO248:=n5_;clear n0_ n1_ n2_ n3_ n4_ n5_;clear ho hb hg hat;have hcz26_0:w24.cell? ⟨gb227,0,none⟩=some (.bool true):=(blk_cell BK227.out 0).trans rfl;have hcz26_1:w24.cell? ⟨gb227,1,none⟩=some (.int .i64 a0_1):=(blk_cell BK227.out 1).trans rfl;have hcz26_2:w24.cell? ⟨gb227,2,none⟩=some (.int .u64 a0_2):=(blk_cell BK227.out 2).trans rfl;have hcz26_3:w24.cell? ⟨gb227,3,none⟩=some (.int .u64 a0_3):=(blk_cell BK227.out 3).trans rfl;have hcz26_4:w24.cell? ⟨gb227,4,none⟩=some (.slice A0_4 l0_4.length c0_4):=(blk_cell BK227.out 4).trans rfl;have hfz26_0:=blk_frozen BK227.out 0;have hfz26_1:=blk_frozen BK227.out 1;have hfz26_2:=blk_frozen BK227.out 2;have hfz26_3:=blk_frozen BK227.out 3;have hfz26_4:=blk_frozen BK227.out 4) | ((with_reducible refine gate_builtin (b:=.append) (xs:=#[.tmp 24,.tmp 26]) rfl ?_);at_builtin;refine Kd.R_append_rows (Kd.int .u8) (w0:=w) w.heap.size rfl (.tmp 24) (.tmp 26) 23 5 (.int .u8 0) 1 rfl Try.underlying23 info5 rfl (by decide) (by omega) v247 y246 l0_4 _ _ _ (fun k_=>some k_≠(.slice Ao17 t231.length co17:Value).ownBlock∧some k_≠(.slice Ao21 t237.length co21:Value).ownBlock∧some k_≠(.slice Ao25 t243.length co25:Value).ownBlock) (fun _=>False) rfl rfl ?aO ?aR (fun _ _ h=>h) (fun _ h=>h.elim) ?aF ?aB ?aS ?aL ?_;(case aR=>repeat (first | exact (Kd.C_below HR0_4.out HB.out) | (with_reducible refine Kd.C_alloc ?_ _) | (with_reducible refine Kd.C_drewN ?_ _) | (with_reducible refine Kd.C_drew ?_)));(case aB=>exact (by repeat (first | (with_reducible first | exact HB.out | apply below_alloc | apply pw_below_drewN | apply below_drew1 | refine below_set ?_ GE227.out) | exact HB.out)));(case aF=>exact (fun k_ hk=>⟨Kd.fresh' (Kd.R_lt (by (with_reducible repeat (first | apply Kd.R_alloc | apply Kd.R_drewN | apply Kd.R_drew));exact HO233.out)) k_ hk,Kd.fresh' (Kd.R_lt (by (with_reducible repeat (first | apply Kd.R_alloc | apply Kd.R_drewN | apply Kd.R_drew));exact HO239.out)) k_ hk,Kd.fresh' (Kd.R_lt (by (with_reducible repeat (first | apply Kd.R_alloc | apply Kd.R_drewN | apply Kd.R_drew));exact HO245.out)) k_ hk⟩));(case aO=>exact (by (with_reducible repeat (first | apply Kd.R_alloc | apply Kd.R_drewN | apply Kd.R_drew));exact HO248.out));(case aS=>exact (below_size (by repeat (first | (with_reducible first | exact HB.out | apply below_alloc | apply pw_below_drewN | apply below_drew1 | refine below_set ?_ GE227.out) | exact HB.out))));(case aL=>have:=LMc9.out;omega);intro v250 w27 ho hb hg hat;rw[← Ny249.out] at ho;have n0_:=Aside0.mk (blk_grown (g:=gb227) (o:=.cells #[.bool true,.int .i64 a0_1,.int .u64 a0_2,.int .u64 a0_3,.slice A0_4 l0_4.length c0_4] 36 (0,0)) (by (with_reducible repeat (first | refine blk_drewN ?_ _ | refine blk_drew ?_ | refine blk_alloc ?_ _));exact BK227.out) hg (Kd.R_ne HO248.out BK227.out (by decide)));have n1_:=Aside0.mk (Kd.R_after (ok:=(fun k_=>some k_≠(.slice Ao21 t237.length co21:Value).ownBlock∧some k_≠(.slice Ao25 t243.length co25:Value).ownBlock)) (by (with_reducible repeat (first | apply Kd.R_alloc | apply Kd.R_drewN | apply Kd.R_drew));exact HO233.out) hg hat);have n2_:=Aside0.mk (Kd.R_after (ok:=(fun k_=>some k_≠(.slice Ao17 t231.length co17:Value).ownBlock∧some k_≠(.slice Ao25 t243.length co25:Value).ownBlock)) (by (with_reducible repeat (first | apply Kd.R_alloc | apply Kd.R_drewN | apply Kd.R_drew));exact HO239.out) hg hat);have n3_:=Aside0.mk (Kd.R_after (ok:=(fun k_=>some k_≠(.slice Ao17 t231.length co17:Value).ownBlock∧some k_≠(.slice Ao21 t237.length co21:Value).ownBlock)) (by (with_reducible repeat (first | apply Kd.R_alloc | apply Kd.R_drewN | apply Kd.R_drew));exact HO245.out) hg hat);have n4_:=Aside0.mk (hb);have n5_:=Aside0.mk (ho);clear BK227;clear HO233;clear HO239;clear HO245;clear HB;clear HO248;have BK227:=n0_;have HO233:=n1_;have HO239:=n2_;have HO245:=n3_;have HB:=n4_;have HO251:=n5_;clear n0_ n1_ n2_ n3_ n4_ n5_;clear ho hb hg hat))
      go_ret
      exact ⟨_,by first | rfl | (simp[errW_none,errW_some] <;> rfl) | (simp[*,errW_none,errW_some] <;> rfl),by (with_reducible repeat (first | apply Kd.R_alloc | apply Kd.R_drewN | apply Kd.R_drew));exact Kd.R_mono HO251.out (fun _ hk=>trivial),by repeat (first | (with_reducible first | exact HB.out | apply below_alloc | apply pw_below_drewN | apply below_drew1 | refine below_set ?_ GE227.out) | exact HB.out)⟩
     rw[if_neg c9] at H
     exact absurd H (by simp)
    rw[if_neg c8] at H
    exact absurd H (by simp)
   rw[if_neg c6] at H
   exact absurd H (by simp)
  rw[if_neg c4] at H
  exact absurd H (by simp)
 replace c2:=Bool.eq_false_iff.mpr c2
 subst c2
 have H1:((nepentheref01_Fill.f k 0 128).bind fun t252=>(some t252))=some r:=by rw[if_neg (show ¬ (false=true) by decide)] at H;exact H
 clear H
 have H:=H1
 clear H1
 replace H:=Option.bind_eq_some_iff.mp H
 obtain ⟨t252,A280,H⟩:=H
 replace H:(some t252)=some r:=H
 have A28:=Aside0.mk A280
 clear A280
 obtain rfl:=Option.some.inj H
 go_enter Try.func53,Try.ntmps53
 go_wp2_with (first | ((with_reducible refine gate_dst (N:=1) rfl ?_);refine box_event ?hg (N:=1) ?hd (cs:=#[.bool false,.int .i64 a0_1,.int .u64 a0_2,.int .u64 a0_3,.slice A0_4 l0_4.length c0_4]) (t:=36) ?hr ?_;(case hd=>rfl);(case hg=>rfl);(case hr=>first | (go_simp;done) | (go_simp;rfl) | (go_simp;simp only[IntKind.wrap_u32,Int.emod_add_emod,Int.add_emod_emod]));intro gb227 hg w29 hbox hb;have n0_:=Aside0.mk (below_step (by repeat (first | (with_reducible first | exact HB.out | apply below_alloc | apply pw_below_drewN | apply below_drew1) | exact HB.out)) hb);have n1_:=Aside0.mk (hbox);have n2_:=Aside0.mk ((by rw[hg];exact (below_size (by repeat (first | (with_reducible first | exact HB.out | apply below_alloc | apply pw_below_drewN | apply below_drew1) | exact HB.out))):w.heap.size≤gb227));have n3_:=Aside0.mk ((by rw[hg];exact (below_size (by repeat (first | (with_reducible first | exact HB.out | apply below_alloc | apply pw_below_drewN | apply below_drew1) | exact HB.out))):w.heap.size≤gb227));clear HB;have HB:=n0_;have BK227:=n1_;have GW227:=n2_;have GE227:=n3_;clear n0_ n1_ n2_ n3_;clear hb hbox hg;have hcz30_0:w29.cell? ⟨gb227,0,none⟩=some (.bool false):=(blk_cell BK227.out 0).trans rfl;have hcz30_1:w29.cell? ⟨gb227,1,none⟩=some (.int .i64 a0_1):=(blk_cell BK227.out 1).trans rfl;have hcz30_2:w29.cell? ⟨gb227,2,none⟩=some (.int .u64 a0_2):=(blk_cell BK227.out 2).trans rfl;have hcz30_3:w29.cell? ⟨gb227,3,none⟩=some (.int .u64 a0_3):=(blk_cell BK227.out 3).trans rfl;have hcz30_4:w29.cell? ⟨gb227,4,none⟩=some (.slice A0_4 l0_4.length c0_4):=(blk_cell BK227.out 4).trans rfl;have hfz30_0:=blk_frozen BK227.out 0;have hfz30_1:=blk_frozen BK227.out 1;have hfz30_2:=blk_frozen BK227.out 2;have hfz30_3:=blk_frozen BK227.out 3;have hfz30_4:=blk_frozen BK227.out 4) | ((with_reducible refine gate_callee (f:=52) rfl ?_);refine goesL_ (some 7) rfl rfl Try.func52 (by kernel_rfl) rfl #[.int .u8 0,.int .i64 128] rfl (by (try simp only[List.map_toArray,List.map_cons,List.map_nil]);first | done | rfl | (simp only[List.length_drop,List.length_take];rfl)) ?_;(with_reducible refine (nepentheref01_Fill.calls k 0 128 t252 _ A28.out).mono ?_);rintro e w31 ⟨v253,rfl,ho0,hb⟩;refine ⟨_,rfl,?_⟩;have n0_:=Aside0.mk (Kd.R_lower ho0 (below_size (by repeat (first | (with_reducible first | exact HB.out | apply below_alloc | apply pw_below_drewN | apply below_drew1 | refine below_set ?_ GE227.out) | exact HB.out))));have n1_:=Aside0.mk (blk_below (g:=gb227) (o:=.cells #[.bool false,.int .i64 a0_1,.int .u64 a0_2,.int .u64 a0_3,.slice A0_4 l0_4.length c0_4] 36 (0,0)) (by (with_reducible repeat (first | refine blk_drewN ?_ _ | refine blk_drew ?_ | refine blk_alloc ?_ _));exact BK227.out) hb);have n2_:=Aside0.mk (below_step (by repeat (first | (with_reducible first | exact HB.out | apply below_alloc | apply pw_below_drewN | apply below_drew1 | refine below_set ?_ GE227.out) | exact HB.out)) hb);clear BK227;clear HB;have HO254:=n0_;have BK227:=n1_;have HB:=n2_;clear n0_ n1_ n2_;(try clear hb);(try clear hb2);(try clear hk);(try clear hi);(try clear ho0)))
 go_ret
 exact ⟨_,by first | rfl | (simp[errW_none,errW_some] <;> rfl) | (simp[*,errW_none,errW_some] <;> rfl),by (with_reducible repeat (first | apply Kd.R_alloc | apply Kd.R_drewN | apply Kd.R_drew));exact HO254.out,by repeat (first | (with_reducible first | exact HB.out | apply below_alloc | apply pw_below_drewN | apply below_drew1 | refine below_set ?_ GE227.out) | exact HB.out)⟩
def nepentheref02_Pad.l0:Nat→List Int→Int→Option (List Int)
 |0,_,_=>none
 |k+1,x0,x3=>if (Int.tmod (wrap64 ((wrap64 ((x0.length:Int)+1))+x3)) 64)=56 then ((some (([]:List Int):List Int)).bind fun y255=>(if y255.length+x0.length<140737488355328 then ((some (y255++x0:List Int)).bind fun y258=>(if y258.length<140737488355328 then ((some (y258 ++ [128]:List Int)).bind fun y261=>((nepentheref01_Fill.f k 0 x3).bind fun t264=>(if y261.length+t264.length<140737488355328 then ((some (y261++t264:List Int)).bind fun y267=>((nepentheref01_Big.f k (IntKind.u64.wrap ((IntKind.u64.wrap ((x0.length:Int)))*8)) 8).bind fun t270=>(if y267.length+t270.length<140737488355328 then (some (y267++t270)) else (none)))) else (none)))) else (none))) else (none))) else (nepentheref02_Pad.l0 k x0 (wrap64 (x3+1)))
def nepentheref02_Pad.f (k:Nat) (l0:List Int):Option (List Int):=nepentheref02_Pad.l0 k l0 0
set_option maxHeartbeats 8000000 in
set_option maxRecDepth 100000 in
theorem nepentheref02_Pad.calls (k:Nat) (A0:Option Addr) (c0:Nat) (l0:List Int) (r:List Int) (w:World) (hr0:Kd.C (Kd.int .u8) w A0 l0.length l0) (hc0:l0.length≤c0) (h:nepentheref02_Pad.f k l0=some r) :
  Calls Try.prog 90 #[.slice A0 l0.length c0] w fun e w'=>∃ v0_:Value,e=.returned (v0_)∧Kd.R (Kd.int .u8) 5 w' w.heap.size (fun _=>True) v0_ r∧Below w.heap.size w w':=by
 have HR0:=Aside0.mk hr0
 have HC0:=Aside0.mk hc0
 clear hr0 hc0
 have HB:=Aside0.mk (Below.refl w.heap.size w)
 have H:(nepentheref02_Pad.l0 k l0 0)=some r:=h
 clear h
 have H':=Aside0.mk H
 clear H
 go_enter Try.func90,Try.ntmps90
 go_wp2
 go_loopg [3] k (fun kq v3 w'=>∃ (x3_1:Int),v3=.int .i64 x3_1∧Aside0 (nepentheref02_Pad.l0 kq l0 x3_1=some r)∧Aside0 (kq≤k)∧Aside0 (Below w.heap.size w w'))
 case atStart=>exact ⟨(0),(by first | rfl | (simp;done) | (simp[*];done)),H',⟨Nat.le_refl _⟩,⟨by repeat (first | (with_reducible first | exact HB.out | apply below_alloc | apply pw_below_drewN | apply below_drew1) | exact HB.out)⟩⟩
 case round=>
  clear H'
  obtain ⟨x3_1,rfl,HA,HK1,HB⟩:=hrel
  cases gk with
  |zero=>exact absurd HA.out (by simp[nepentheref02_Pad.l0])
  |succ k1=>
   have H:=HA.out
   clear HA
   simp only[nepentheref02_Pad.l0] at H
   by_cases c2:(Int.tmod (wrap64 ((wrap64 ((l0.length:Int)+1))+x3_1)) 64)=56
   ·rw[if_pos c2] at H
    have c2b0:((Int.tmod (wrap64 ((wrap64 ((l0.length:Int)+1))+x3_1)) 64) == 56)=true:=beq_iff_eq.mpr c2
    have c2b1:((Int.tmod (wrap64 ((wrap64 ((l0.length:Int)+1))+x3_1)) 64) != 56)=false:=bne_eq_false_iff_eq.mpr c2
    clear c2
    obtain ⟨y255,hy255⟩:∃ y_:List Int,y_=(([]:List Int)):=⟨_,rfl⟩
    replace H:(if y255.length+l0.length<140737488355328 then ((some (y255++l0:List Int)).bind fun y258=>(if y258.length<140737488355328 then ((some (y258 ++ [128]:List Int)).bind fun y261=>((nepentheref01_Fill.f k1 0 x3_1).bind fun t264=>(if y261.length+t264.length<140737488355328 then ((some (y261++t264:List Int)).bind fun y267=>((nepentheref01_Big.f k1 (IntKind.u64.wrap ((IntKind.u64.wrap ((l0.length:Int)))*8)) 8).bind fun t270=>(if y267.length+t270.length<140737488355328 then (some (y267++t270)) else (none)))) else (none)))) else (none))) else (none))=some r:=by first | (rw[hy255];with_reducible exact H) | (have H2_:=(Option.bind_some _ _).symm.trans H;rw[hy255];with_reducible exact H2_) | (have H2_:=(Option.bind_some _ _).symm.trans H;with_reducible exact H2_) | with_reducible exact H | (rw[hy255];exact H) | exact H
    have Ny255:=Aside0.mk hy255
    clear hy255
    by_cases c3:y255.length+l0.length<140737488355328
    ·rw[if_pos c3] at H
     have LMc3:=Aside0.mk c3
     clear c3
     obtain ⟨y258,hy258⟩:∃ y_:List Int,y_=(y255++l0):=⟨_,rfl⟩
     replace H:(if y258.length<140737488355328 then ((some (y258 ++ [128]:List Int)).bind fun y261=>((nepentheref01_Fill.f k1 0 x3_1).bind fun t264=>(if y261.length+t264.length<140737488355328 then ((some (y261++t264:List Int)).bind fun y267=>((nepentheref01_Big.f k1 (IntKind.u64.wrap ((IntKind.u64.wrap ((l0.length:Int)))*8)) 8).bind fun t270=>(if y267.length+t270.length<140737488355328 then (some (y267++t270)) else (none)))) else (none)))) else (none))=some r:=by first | (rw[hy258];with_reducible exact H) | (have H2_:=(Option.bind_some _ _).symm.trans H;rw[hy258];with_reducible exact H2_) | (have H2_:=(Option.bind_some _ _).symm.trans H;with_reducible exact H2_) | with_reducible exact H | (rw[hy258];exact H) | exact H
     have Ny258:=Aside0.mk hy258
     clear hy258
     by_cases c4:y258.length<140737488355328
     ·rw[if_pos c4] at H
      have LMc4:=Aside0.mk c4
      clear c4
      obtain ⟨y261,hy261⟩:∃ y_:List Int,y_=(y258 ++ [128]):=⟨_,rfl⟩
      replace H:((nepentheref01_Fill.f k1 0 x3_1).bind fun t264=>(if y261.length+t264.length<140737488355328 then ((some (y261++t264:List Int)).bind fun y267=>((nepentheref01_Big.f k1 (IntKind.u64.wrap ((IntKind.u64.wrap ((l0.length:Int)))*8)) 8).bind fun t270=>(if y267.length+t270.length<140737488355328 then (some (y267++t270)) else (none)))) else (none)))=some r:=by first | (rw[hy261];with_reducible exact H) | (have H2_:=(Option.bind_some _ _).symm.trans H;rw[hy261];with_reducible exact H2_) | (have H2_:=(Option.bind_some _ _).symm.trans H;with_reducible exact H2_) | with_reducible exact H | (rw[hy261];exact H) | exact H
      have Ny261:=Aside0.mk hy261
      clear hy261
      replace H:=Option.bind_eq_some_iff.mp H
      obtain ⟨t264,A50,H⟩:=H
      replace H:(if y261.length+t264.length<140737488355328 then ((some (y261++t264:List Int)).bind fun y267=>((nepentheref01_Big.f k1 (IntKind.u64.wrap ((IntKind.u64.wrap ((l0.length:Int)))*8)) 8).bind fun t270=>(if y267.length+t270.length<140737488355328 then (some (y267++t270)) else (none)))) else (none))=some r:=H
      have A5:=Aside0.mk A50
      clear A50
      by_cases c6:y261.length+t264.length<140737488355328
      ·rw[if_pos c6] at H
       have LMc6:=Aside0.mk c6
       clear c6
       obtain ⟨y267,hy267⟩:∃ y_:List Int,y_=(y261++t264):=⟨_,rfl⟩
       replace H:((nepentheref01_Big.f k1 (IntKind.u64.wrap ((IntKind.u64.wrap ((l0.length:Int)))*8)) 8).bind fun t270=>(if y267.length+t270.length<140737488355328 then (some (y267++t270)) else (none)))=some r:=by first | (rw[hy267];with_reducible exact H) | (have H2_:=(Option.bind_some _ _).symm.trans H;rw[hy267];with_reducible exact H2_) | (have H2_:=(Option.bind_some _ _).symm.trans H;with_reducible exact H2_) | with_reducible exact H | (rw[hy267];exact H) | exact H
       have Ny267:=Aside0.mk hy267
       clear hy267
       replace H:=Option.bind_eq_some_iff.mp H
       obtain ⟨t270,A70,H⟩:=H
       replace H:(if y267.length+t270.length<140737488355328 then (some (y267++t270)) else (none))=some r:=H
       have A7:=Aside0.mk A70
       clear A70
       by_cases c8:y267.length+t270.length<140737488355328
       ·rw[if_pos c8] at H
        have LMc8:=Aside0.mk c8
        clear c8
        obtain ⟨y273,hy273⟩:∃ y_:List Int,y_=(y267++t270):=⟨_,rfl⟩
        replace H:(some y273)=some r:=by first | (rw[hy273];with_reducible exact H) | (have H2_:=(Option.bind_some _ _).symm.trans H;rw[hy273];with_reducible exact H2_) | (have H2_:=(Option.bind_some _ _).symm.trans H;with_reducible exact H2_) | with_reducible exact H | (rw[hy273];exact H) | exact H
        have Ny273:=Aside0.mk hy273
        clear hy273
        obtain rfl:=Option.some.inj H
        go_wp2_with (first | ((with_reducible refine gate_dst (N:=14) rfl ?_);refine Kd.R_lit (Kd.int .u8) _ 5 ?hg (N:=14) ?hd (xs:=([]:List Int)) (inner:=[]) (ok:=fun _=>True) (okp:=fun _=>True) ?hr ?hp (fun _ hk=>hk) trivial (Below.refl _ _) (Nat.le_refl _) (by simp) ?_;(case hd=>rfl);(case hg=>rfl);(case hr=>first | (go_simp;done) | (go_simp;rfl) | (go_simp;simp only[IntKind.wrap_u32,Int.emod_add_emod,Int.add_emod_emod]));(case hp=>exact (Reps.none _ _));intro v256 w9 ho10 hb hg_ hnew_;clear hg_ hnew_;(first | rw[← Ny255.out] at ho10 | (simp only[Int.reduceToNat] at ho10;rw[← Ny255.out] at ho10));have n0_:=Aside0.mk (Kd.R_lower ho10 (below_size (by repeat (first | (with_reducible first | exact HB.out | apply below_alloc | apply pw_below_drewN | apply below_drew1) | exact HB.out))));have n1_:=Aside0.mk (below_step (by repeat (first | (with_reducible first | exact HB.out | apply below_alloc | apply pw_below_drewN | apply below_drew1) | exact HB.out)) hb);clear HB;have HO257:=n0_;have HB:=n1_;clear n0_ n1_;clear hb ho10) | ((with_reducible refine gate_builtin (b:=.append) (xs:=#[.tmp 14,.tmp 15]) rfl ?_);at_builtin;refine Kd.R_append_rows (Kd.int .u8) (w0:=w) w.heap.size rfl (.tmp 14) (.tmp 15) 23 5 (.int .u8 0) 1 rfl Try.underlying23 info5 rfl (by decide) (by omega) v256 y255 l0 _ _ _ (fun _=>True) (fun _=>False) rfl rfl ?aO ?aR (fun _ _ h=>h) (fun _ h=>h.elim) ?aF ?aB ?aS ?aL ?_;(case aR=>repeat (first | exact (Kd.C_below HR0.out HB.out) | (with_reducible refine Kd.C_alloc ?_ _) | (with_reducible refine Kd.C_drewN ?_ _) | (with_reducible refine Kd.C_drew ?_)));(case aB=>exact (by repeat (first | (with_reducible first | exact HB.out | apply below_alloc | apply pw_below_drewN | apply below_drew1) | exact HB.out)));(case aF=>exact (fun _ _=>trivial));(case aO=>exact (by (with_reducible repeat (first | apply Kd.R_alloc | apply Kd.R_drewN | apply Kd.R_drew));exact HO257.out));(case aS=>exact (below_size (by repeat (first | (with_reducible first | exact HB.out | apply below_alloc | apply pw_below_drewN | apply below_drew1) | exact HB.out))));(case aL=>have:=LMc3.out;omega);intro v259 w11 ho hb hg hat;rw[← Ny258.out] at ho;have n0_:=Aside0.mk (hb);have n1_:=Aside0.mk (ho);clear HB;clear HO257;have HB:=n0_;have HO260:=n1_;clear n0_ n1_;clear ho hb hg hat) | ((with_reducible refine gate_builtin (b:=.append) (xs:=#[.tmp 16,.tmp 17]) rfl ?_);at_builtin;refine Kd.R_append (Kd.int .u8) (w0:=w) w.heap.size rfl (.tmp 16) (.tmp 17) 23 5 (.int .u8 0) 1 rfl Try.underlying23 info5 rfl (by decide) (by omega) v259 y258 128 [.int .u8 128] (fun _=>True) (fun _=>False) rfl rfl ?aP (fun _ hk=>hk.elim) ?aF ?aO ?aB ?aS ?aL ?_;(case aP=>exact rfl);(case aB=>exact (by repeat (first | (with_reducible first | exact HB.out | apply below_alloc | apply pw_below_drewN | apply below_drew1) | exact HB.out)));(case aF=>exact (fun _ _=>trivial));(case aO=>exact (by (with_reducible repeat (first | apply Kd.R_alloc | apply Kd.R_drewN | apply Kd.R_drew));exact HO260.out));(case aS=>exact (below_size (by repeat (first | (with_reducible first | exact HB.out | apply below_alloc | apply pw_below_drewN | apply below_drew1) | exact HB.out))));(case aL=>have:=LMc4.out;omega);intro v262 w12 ho hb hg hat;rw[← Ny261.out] at ho;have n0_:=Aside0.mk (hb);have n1_:=Aside0.mk (ho);clear HB;clear HO260;have HB:=n0_;have HO263:=n1_;clear n0_ n1_;clear ho hb hg hat) | ((with_reducible refine gate_callee (f:=52) rfl ?_);refine goesL_ (some 21) rfl rfl Try.func52 (by kernel_rfl) rfl #[.int .u8 0,.int .i64 x3_1] rfl (by (try simp only[List.map_toArray,List.map_cons,List.map_nil]);first | done | rfl | (simp only[List.length_drop,List.length_take];rfl)) ?_;(with_reducible refine (nepentheref01_Fill.calls k1 0 x3_1 t264 _ A5.out).mono ?_);rintro e w13 ⟨v265,rfl,ho0,hb⟩;refine ⟨_,rfl,?_⟩;have n0_:=Aside0.mk (Kd.R_elder' (by (with_reducible repeat (first | apply Kd.R_alloc | apply Kd.R_drewN | apply Kd.R_drew));exact HO263.out) (Kd.R_base ho0) hb);have n1_:=Aside0.mk (Kd.R_lower (Kd.R_new' ho0 (Kd.R_lt (by (with_reducible repeat (first | apply Kd.R_alloc | apply Kd.R_drewN | apply Kd.R_drew));exact HO263.out))) (below_size (by repeat (first | (with_reducible first | exact HB.out | apply below_alloc | apply pw_below_drewN | apply below_drew1) | exact HB.out))));have n2_:=Aside0.mk (below_step (by repeat (first | (with_reducible first | exact HB.out | apply below_alloc | apply pw_below_drewN | apply below_drew1) | exact HB.out)) hb);clear HO263;clear HB;have HO263:=n0_;have HO266:=n1_;have HB:=n2_;clear n0_ n1_ n2_;(try clear hb);(try clear hb2);(try clear hk);(try clear hi);(try clear ho0);obtain ⟨Ao15,co15,eo15⟩:=Kd.R_slice HO266.out;subst eo15) | ((with_reducible refine gate_builtin (b:=.append) (xs:=#[.tmp 19,.tmp 21]) rfl ?_);at_builtin;refine Kd.R_append_rows (Kd.int .u8) (w0:=w) w.heap.size rfl (.tmp 19) (.tmp 21) 23 5 (.int .u8 0) 1 rfl Try.underlying23 info5 rfl (by decide) (by omega) v262 y261 t264 _ _ _ (fun k_=>some k_≠(.slice Ao15 t264.length co15:Value).ownBlock) (fun _=>False) rfl rfl ?aO ?aR (fun _ _ h=>h) (fun _ h=>h.elim) ?aF ?aB ?aS ?aL ?_;(case aR=>repeat (first | exact (Kd.R_reads' HO266.out).2.2 | (with_reducible refine Kd.C_alloc ?_ _) | (with_reducible refine Kd.C_drewN ?_ _) | (with_reducible refine Kd.C_drew ?_)));(case aB=>exact (by repeat (first | (with_reducible first | exact HB.out | apply below_alloc | apply pw_below_drewN | apply below_drew1) | exact HB.out)));(case aF=>exact (fun k_ hk=>Kd.fresh' (Kd.R_lt (by (with_reducible repeat (first | apply Kd.R_alloc | apply Kd.R_drewN | apply Kd.R_drew));exact HO266.out)) k_ hk));(case aO=>exact (by (with_reducible repeat (first | apply Kd.R_alloc | apply Kd.R_drewN | apply Kd.R_drew));exact Kd.R_mono HO263.out (fun _ hk=>by first | exact hk.2 | trivial)));(case aS=>exact (below_size (by repeat (first | (with_reducible first | exact HB.out | apply below_alloc | apply pw_below_drewN | apply below_drew1) | exact HB.out))));(case aL=>have:=LMc6.out;omega);intro v268 w14 ho hb hg hat;rw[← Ny267.out] at ho;have n0_:=Aside0.mk (Kd.R_after (ok:=(fun _=>True)) (by (with_reducible repeat (first | apply Kd.R_alloc | apply Kd.R_drewN | apply Kd.R_drew));exact HO266.out) hg hat);have n1_:=Aside0.mk (hb);have n2_:=Aside0.mk (ho);clear HO266;clear HB;clear HO263;have HO266:=n0_;have HB:=n1_;have HO269:=n2_;clear n0_ n1_ n2_;clear ho hb hg hat) | ((with_reducible refine gate_callee (f:=51) rfl ?_);refine goesL_ (some 28) rfl rfl Try.func51 (by kernel_rfl) rfl #[.int .u64 (IntKind.u64.wrap ((IntKind.u64.wrap ((l0.length:Int)))*8)),.int .i64 8] rfl (by (try simp only[List.map_toArray,List.map_cons,List.map_nil]);first | done | rfl | (simp only[List.length_drop,List.length_take];rfl)) ?_;(with_reducible refine (nepentheref01_Big.calls k1 (IntKind.u64.wrap ((IntKind.u64.wrap ((l0.length:Int)))*8)) 8 t270 _ A7.out).mono ?_);rintro e w16 ⟨v271,rfl,ho0,hb⟩;refine ⟨_,rfl,?_⟩;have n0_:=Aside0.mk (Kd.R_elder' (by (with_reducible repeat (first | apply Kd.R_alloc | apply Kd.R_drewN | apply Kd.R_drew));exact HO266.out) (Kd.R_base ho0) hb);have n1_:=Aside0.mk (Kd.R_elder' (by (with_reducible repeat (first | apply Kd.R_alloc | apply Kd.R_drewN | apply Kd.R_drew));exact HO269.out) (Kd.R_base ho0) hb);have n2_:=Aside0.mk (Kd.R_lower (Kd.R_new' (Kd.R_new' ho0 (Kd.R_lt (by (with_reducible repeat (first | apply Kd.R_alloc | apply Kd.R_drewN | apply Kd.R_drew));exact HO266.out))) (Kd.R_lt (by (with_reducible repeat (first | apply Kd.R_alloc | apply Kd.R_drewN | apply Kd.R_drew));exact HO269.out))) (below_size (by repeat (first | (with_reducible first | exact HB.out | apply below_alloc | apply pw_below_drewN | apply below_drew1) | exact HB.out))));have n3_:=Aside0.mk (below_step (by repeat (first | (with_reducible first | exact HB.out | apply below_alloc | apply pw_below_drewN | apply below_drew1) | exact HB.out)) hb);clear HO266;clear HO269;clear HB;have HO266:=n0_;have HO269:=n1_;have HO272:=n2_;have HB:=n3_;clear n0_ n1_ n2_ n3_;(try clear hb);(try clear hb2);(try clear hk);(try clear hi);(try clear ho0);obtain ⟨Ao18,co18,eo18⟩:=Kd.R_slice HO272.out;subst eo18) | ((with_reducible refine gate_builtin (b:=.append) (xs:=#[.tmp 23,.tmp 28]) rfl ?_);at_builtin;refine Kd.R_append_rows (Kd.int .u8) (w0:=w) w.heap.size rfl (.tmp 23) (.tmp 28) 23 5 (.int .u8 0) 1 rfl Try.underlying23 info5 rfl (by decide) (by omega) v268 y267 t270 _ _ _ (fun k_=>some k_≠(.slice Ao15 t264.length co15:Value).ownBlock∧some k_≠(.slice Ao18 t270.length co18:Value).ownBlock) (fun _=>False) rfl rfl ?aO ?aR (fun _ _ h=>h) (fun _ h=>h.elim) ?aF ?aB ?aS ?aL ?_;(case aR=>repeat (first | exact (Kd.R_reads' HO272.out).2.2 | (with_reducible refine Kd.C_alloc ?_ _) | (with_reducible refine Kd.C_drewN ?_ _) | (with_reducible refine Kd.C_drew ?_)));(case aB=>exact (by repeat (first | (with_reducible first | exact HB.out | apply below_alloc | apply pw_below_drewN | apply below_drew1) | exact HB.out)));(case aF=>exact (fun k_ hk=>⟨Kd.fresh' (Kd.R_lt (by (with_reducible repeat (first | apply Kd.R_alloc | apply Kd.R_drewN | apply Kd.R_drew));exact HO266.out)) k_ hk,Kd.fresh' (Kd.R_lt (by (with_reducible repeat (first | apply Kd.R_alloc | apply Kd.R_drewN | apply Kd.R_drew));exact HO272.out)) k_ hk⟩));(case aO=>exact (by (with_reducible repeat (first | apply Kd.R_alloc | apply Kd.R_drewN | apply Kd.R_drew));exact HO269.out));(case aS=>exact (below_size (by repeat (first | (with_reducible first | exact HB.out | apply below_alloc | apply pw_below_drewN | apply below_drew1) | exact HB.out))));(case aL=>have:=LMc8.out;omega);intro v274 w17 ho hb hg hat;rw[← Ny273.out] at ho;have n0_:=Aside0.mk (Kd.R_after (ok:=(fun k_=>some k_≠(.slice Ao18 t270.length co18:Value).ownBlock)) (by (with_reducible repeat (first | apply Kd.R_alloc | apply Kd.R_drewN | apply Kd.R_drew));exact Kd.R_mono HO266.out (fun _ hk=>⟨hk.2,hk.1.2⟩)) hg hat);have n1_:=Aside0.mk (Kd.R_after (ok:=(fun k_=>some k_≠(.slice Ao15 t264.length co15:Value).ownBlock)) (by (with_reducible repeat (first | apply Kd.R_alloc | apply Kd.R_drewN | apply Kd.R_drew));exact Kd.R_mono HO272.out (fun _ hk=>⟨hk.1.2,hk.2⟩)) hg hat);have n2_:=Aside0.mk (hb);have n3_:=Aside0.mk (ho);clear HO266;clear HO272;clear HB;clear HO269;have HO266:=n0_;have HO272:=n1_;have HB:=n2_;have HO275:=n3_;clear n0_ n1_ n2_ n3_;clear ho hb hg hat))
        go_ret
        exact ⟨_,by first | rfl | (simp[errW_none,errW_some] <;> rfl) | (simp[*,errW_none,errW_some] <;> rfl),by (with_reducible repeat (first | apply Kd.R_alloc | apply Kd.R_drewN | apply Kd.R_drew));exact Kd.R_mono HO275.out (fun _ hk=>trivial),by repeat (first | (with_reducible first | exact HB.out | apply below_alloc | apply pw_below_drewN | apply below_drew1) | exact HB.out)⟩
       rw[if_neg c8] at H
       exact absurd H (by simp)
      rw[if_neg c6] at H
      exact absurd H (by simp)
     rw[if_neg c4] at H
     exact absurd H (by simp)
    rw[if_neg c3] at H
    exact absurd H (by simp)
   rw[if_neg c2] at H
   have c2b0:((Int.tmod (wrap64 ((wrap64 ((l0.length:Int)+1))+x3_1)) 64) == 56)=false:=beq_eq_false_iff_ne.mpr c2
   have c2b1:((Int.tmod (wrap64 ((wrap64 ((l0.length:Int)+1))+x3_1)) 64) != 56)=true:=bne_iff_ne.mpr c2
   have H':=Aside0.mk H
   clear H
   go_wp2
   go_roundg k1
   case measure=>have:=HK1.out;omega
   case rel=>exact ⟨(wrap64 (x3_1+1)),(by first | rfl | (simp;done) | (simp[*];done)),H',⟨by have:=HK1.out;omega⟩,⟨by repeat (first | (with_reducible first | exact HB.out | apply below_alloc | apply pw_below_drewN | apply below_drew1) | exact HB.out)⟩⟩
def nepentheref02_First.f  : Option (List Int):=some (([1779033703,3144134277,1013904242,2773480762,1359893119,2600822924,528734635,1541459225]:List Int))
set_option maxHeartbeats 8000000 in
set_option maxRecDepth 100000 in
theorem nepentheref02_First.calls  (r:List Int) (w:World) (h:nepentheref02_First.f  = some r) :
  Calls Try.prog 91 #[] w fun e w'=>∃ v0_:Value,e=.returned (v0_)∧Kd.R (Kd.int .u32) 87 w' w.heap.size (fun _=>True) v0_ r∧Below w.heap.size w w':=by
 have HB:=Aside0.mk (Below.refl w.heap.size w)
 have H:(some (([1779033703,3144134277,1013904242,2773480762,1359893119,2600822924,528734635,1541459225]:List Int)))=some r:=h
 clear h
 obtain ⟨y276,hy276⟩:∃ y_:List Int,y_=(([1779033703,3144134277,1013904242,2773480762,1359893119,2600822924,528734635,1541459225]:List Int)):=⟨_,rfl⟩
 replace H:(some y276)=some r:=by first | (rw[hy276];with_reducible exact H) | (have H2_:=(Option.bind_some _ _).symm.trans H;rw[hy276];with_reducible exact H2_) | (have H2_:=(Option.bind_some _ _).symm.trans H;with_reducible exact H2_) | with_reducible exact H | (rw[hy276];exact H) | exact H
 have Ny276:=Aside0.mk hy276
 clear hy276
 obtain rfl:=Option.some.inj H
 go_enter Try.func91,Try.ntmps91
 go_wp2_with (first | ((with_reducible refine gate_dst (N:=1) rfl ?_);refine Kd.R_lit (Kd.int .u32) _ 87 ?hg (N:=1) ?hd (xs:=([1779033703,3144134277,1013904242,2773480762,1359893119,2600822924,528734635,1541459225]:List Int)) (inner:=[.int .u32 1779033703,.int .u32 3144134277,.int .u32 1013904242,.int .u32 2773480762,.int .u32 1359893119,.int .u32 2600822924,.int .u32 528734635,.int .u32 1541459225]) (ok:=fun _=>True) (okp:=fun _=>True) ?hr ?hp (fun _ hk=>hk) trivial (Below.refl _ _) (Nat.le_refl _) (by simp) ?_;(case hd=>rfl);(case hg=>rfl);(case hr=>first | (go_simp;done) | (go_simp;rfl) | (go_simp;simp only[IntKind.wrap_u32,Int.emod_add_emod,Int.add_emod_emod]));(case hp=>exact (Reps.one (show Kd.M (Kd.int .u32) _ _ _ 1779033703 [.int .u32 1779033703] from rfl) (Reps.one (show Kd.M (Kd.int .u32) _ _ _ 3144134277 [.int .u32 3144134277] from rfl) (Reps.one (show Kd.M (Kd.int .u32) _ _ _ 1013904242 [.int .u32 1013904242] from rfl) (Reps.one (show Kd.M (Kd.int .u32) _ _ _ 2773480762 [.int .u32 2773480762] from rfl) (Reps.one (show Kd.M (Kd.int .u32) _ _ _ 1359893119 [.int .u32 1359893119] from rfl) (Reps.one (show Kd.M (Kd.int .u32) _ _ _ 2600822924 [.int .u32 2600822924] from rfl) (Reps.one (show Kd.M (Kd.int .u32) _ _ _ 528734635 [.int .u32 528734635] from rfl) (Reps.one (show Kd.M (Kd.int .u32) _ _ _ 1541459225 [.int .u32 1541459225] from rfl) (Reps.none _ _))))))))));intro v277 w1 ho2 hb hg_ hnew_;clear hg_ hnew_;(first | rw[← Ny276.out] at ho2 | (simp only[Int.reduceToNat] at ho2;rw[← Ny276.out] at ho2));have n0_:=Aside0.mk (Kd.R_lower ho2 (below_size (by repeat (first | (with_reducible first | exact HB.out | apply below_alloc | apply pw_below_drewN | apply below_drew1) | exact HB.out))));have n1_:=Aside0.mk (below_step (by repeat (first | (with_reducible first | exact HB.out | apply below_alloc | apply pw_below_drewN | apply below_drew1) | exact HB.out)) hb);clear HB;have HO278:=n0_;have HB:=n1_;clear n0_ n1_;clear hb ho2))
 go_ret
 exact ⟨_,by first | rfl | (simp[errW_none,errW_some] <;> rfl) | (simp[*,errW_none,errW_some] <;> rfl),by (with_reducible repeat (first | apply Kd.R_alloc | apply Kd.R_drewN | apply Kd.R_drew));exact HO278.out,by repeat (first | (with_reducible first | exact HB.out | apply below_alloc | apply pw_below_drewN | apply below_drew1) | exact HB.out)⟩
def nepentheref01_NumLittle.l0:Nat→List Int→Int→Int→Option (Int)
 |0,_,_,_=>none
 |k+1,x0,x3,x4=>if x4≥0 then (if 0≤x4 then (if x4<(x0.length:Int) then (nepentheref01_NumLittle.l0 k x0 (IntKind.u64.wrap ((IntKind.u64.wrap (x3*256))+(IntKind.u64.wrap (rd x0 x4)))) (wrap64 (x4 - 1))) else (none)) else (none)) else (some x3)
def nepentheref01_NumLittle.f (k:Nat) (l0:List Int):Option (Int):=nepentheref01_NumLittle.l0 k l0 0 (mn 7 (wrap64 ((l0.length:Int) - 1)))
set_option maxHeartbeats 8000000 in
set_option maxRecDepth 100000 in
theorem nepentheref01_NumLittle.calls (k:Nat) (A0:Option Addr) (c0:Nat) (l0:List Int) (r:Int) (w:World) (hr0:Kd.C (Kd.int .u8) w A0 l0.length l0) (hc0:l0.length≤c0) (h:nepentheref01_NumLittle.f k l0=some r) :
  Calls Try.prog 82 #[.slice A0 l0.length c0] w fun e w'=>e=.returned (.int .u64 r)∧Below w.heap.size w w':=by
 have HR0:=Aside0.mk hr0
 have HC0:=Aside0.mk hc0
 clear hr0 hc0
 have HB:=Aside0.mk (Below.refl w.heap.size w)
 have H:(nepentheref01_NumLittle.l0 k l0 0 (mn 7 (wrap64 ((l0.length:Int) - 1))))=some r:=h
 clear h
 obtain ⟨ji2,hji2⟩:∃ j_:Int,(mn 7 (wrap64 ((l0.length:Int) - 1)))=j_:=⟨_,rfl⟩
 replace H:(nepentheref01_NumLittle.l0 k l0 0 ji2)=some r:=by first | (rw[hji2] at H;exact H) | (simp only[hji2] at H ⊢;exact H)
 (try (have hji2h:ji2≤7:=by (rw[← hji2];unfold mn;(repeat' split) <;> omega)))
 (try (have hji2g:ji2≤64:=by omega))
 have hji2_:(if (wrap64 ((l0.length:Int) - 1))<7 then (wrap64 ((l0.length:Int) - 1)) else 7)=ji2:=hji2
 have H':=Aside0.mk H
 clear H
 go_enter Try.func82,Try.ntmps82
 go_wp2
 go_loopg [3,4] k (fun kq v3 v4 w'=>∃ (x3_1:Int) (x4_1:Int),v3=.int .u64 x3_1∧v4=.int .i64 x4_1∧Aside0 (nepentheref01_NumLittle.l0 kq l0 x3_1 x4_1=some r)∧Aside0 (kq≤k)∧Aside0 (Below w.heap.size w w'))
 case atStart=>exact ⟨(0),(ji2),(by first | rfl | (simp;done) | (simp[*];done)),(by first | rfl | (simp;done) | (simp only[← hji2] <;> (first | rfl | simp)) | (simp[*];done)),H',⟨Nat.le_refl _⟩,⟨by repeat (first | (with_reducible first | exact HB.out | apply below_alloc | apply pw_below_drewN | apply below_drew1) | exact HB.out)⟩⟩
 case round=>
  clear H'
  try clear p2
  obtain ⟨x3_1,x4_1,rfl,rfl,HA,HK1,HB⟩:=hrel
  cases gk with
  |zero=>exact absurd HA.out (by simp[nepentheref01_NumLittle.l0])
  |succ k1=>
   have H:=HA.out
   clear HA
   simp only[nepentheref01_NumLittle.l0] at H
   by_cases c3:x4_1≥0
   ·rw[if_pos c3] at H
    have c3b0:decide (0≤x4_1)=true:=decide_eq_true c3
    clear c3
    by_cases c4:0≤x4_1
    ·rw[if_pos c4] at H
     have c4b0:decide (0≤x4_1)=true:=decide_eq_true c4
     clear c4
     by_cases c5:x4_1<(l0.length:Int)
     ·rw[if_pos c5] at H
      have c5b0:decide (x4_1<(l0.length:Int))=true:=decide_eq_true c5
      clear c5
      have H':=Aside0.mk H
      clear H
      have p279:0≤(x4_1:Int):=of_decide_eq_true (by first | (with_reducible assumption) | assumption)
      have q279:x4_1<(l0.length:Int):=of_decide_eq_true (by first | (with_reducible assumption) | assumption)
      obtain ⟨ad279,e279,hx279_0⟩:=Kd.at_int HR0.out x4_1 p279 q279
      cases e279
      replace hx279_0:=(HB.out.cell (World.block_lt_of_cell? w _ hx279_0)).trans hx279_0
      replace p279:=eq_true p279
      replace q279:=eq_true q279
      go_wp2
      go_roundg k1
      case measure=>have:=HK1.out;omega
      case rel=>exact ⟨(IntKind.u64.wrap ((IntKind.u64.wrap (x3_1*256))+(IntKind.u64.wrap (rd l0 x4_1)))),(wrap64 (x4_1 - 1)),(by first | rfl | (simp;done) | (simp[*];done)),(by first | rfl | (simp;done) | (simp[*];done)),H',⟨by have:=HK1.out;omega⟩,⟨by repeat (first | (with_reducible first | exact HB.out | apply below_alloc | apply pw_below_drewN | apply below_drew1) | exact HB.out)⟩⟩
     rw[if_neg c5] at H
     exact absurd H (by simp)
    rw[if_neg c4] at H
    exact absurd H (by simp)
   rw[if_neg c3] at H
   have c3b0:decide (0≤x4_1)=false:=decide_eq_false c3
   clear c3
   obtain rfl:=Option.some.inj H
   go_wp2
   go_ret
   exact ⟨by first | rfl | (simp[errW_none,errW_some] <;> rfl) | (simp only[← hji2];first | rfl | (simp[errW_none,errW_some] <;> rfl)) | (simp[*,errW_none,errW_some] <;> rfl),by repeat (first | (with_reducible first | exact HB.out | apply below_alloc | apply pw_below_drewN | apply below_drew1) | exact HB.out)⟩
def nepentheref01_Num.f (k:Nat) (l0:List Int):Option (Int):=(nepentheref01_Back.f k l0).bind fun t280=>((nepentheref01_NumLittle.f k t280).bind fun t283=>(some t283))
set_option maxHeartbeats 8000000 in
set_option maxRecDepth 100000 in
theorem nepentheref01_Num.calls (k:Nat) (A0:Option Addr) (c0:Nat) (l0:List Int) (r:Int) (w:World) (hr0:Kd.C (Kd.int .u8) w A0 l0.length l0) (hc0:l0.length≤c0) (h:nepentheref01_Num.f k l0=some r) :
  Calls Try.prog 65 #[.slice A0 l0.length c0] w fun e w'=>e=.returned (.int .u64 r)∧Below w.heap.size w w':=by
 have HR0:=Aside0.mk hr0
 have HC0:=Aside0.mk hc0
 clear hr0 hc0
 have HB:=Aside0.mk (Below.refl w.heap.size w)
 have H:((nepentheref01_Back.f k l0).bind fun t280=>((nepentheref01_NumLittle.f k t280).bind fun t283=>(some t283)))=some r:=h
 clear h
 replace H:=Option.bind_eq_some_iff.mp H
 obtain ⟨t280,A20,H⟩:=H
 replace H:((nepentheref01_NumLittle.f k t280).bind fun t283=>(some t283))=some r:=H
 have A2:=Aside0.mk A20
 clear A20
 replace H:=Option.bind_eq_some_iff.mp H
 obtain ⟨t283,A30,H⟩:=H
 replace H:(some t283)=some r:=H
 have A3:=Aside0.mk A30
 clear A30
 obtain rfl:=Option.some.inj H
 go_enter Try.func65,Try.ntmps65
 go_wp2_with (first | ((with_reducible refine gate_callee (f:=72) rfl ?_);refine goesL_ (some 4) rfl rfl Try.func72 (by kernel_rfl) rfl #[.slice A0 l0.length c0] rfl (by (try simp only[List.map_toArray,List.map_cons,List.map_nil]);first | done | rfl | (simp only[List.length_drop,List.length_take];rfl)) ?_;(with_reducible refine (nepentheref01_Back.calls k _ _ l0 t280 _ ?side1 ?side2 A2.out).mono ?_);(case side1=>repeat (first | exact HR0.out | (with_reducible refine Kd.C_alloc ?_ _) | (with_reducible refine Kd.C_drewN ?_ _) | (with_reducible refine Kd.C_drew ?_)));(case side2=>exact HC0.out);rintro e w4 ⟨v281,rfl,ho0,hb⟩;refine ⟨_,rfl,?_⟩;have n0_:=Aside0.mk (Kd.R_lower ho0 (below_size (by repeat (first | (with_reducible first | exact HB.out | apply below_alloc | apply pw_below_drewN | apply below_drew1) | exact HB.out))));have n1_:=Aside0.mk (below_step (by repeat (first | (with_reducible first | exact HB.out | apply below_alloc | apply pw_below_drewN | apply below_drew1) | exact HB.out)) hb);clear HB;have HO282:=n0_;have HB:=n1_;clear n0_ n1_;(try clear hb);(try clear hb2);(try clear hk);(try clear hi);(try clear ho0);obtain ⟨Ao5,co5,eo5⟩:=Kd.R_slice HO282.out;subst eo5) | ((with_reducible refine gate_callee (f:=82) rfl ?_);refine goesL_ (some 5) rfl rfl Try.func82 (by kernel_rfl) rfl #[.slice Ao5 t280.length co5] rfl (by (try simp only[List.map_toArray,List.map_cons,List.map_nil]);first | done | rfl | (simp only[List.length_drop,List.length_take];rfl)) ?_;(with_reducible refine (nepentheref01_NumLittle.calls k _ _ t280 t283 _ ?side1 ?side2 A3.out).mono ?_);(case side1=>repeat (first | exact (Kd.R_reads' HO282.out).2.2 | (with_reducible refine Kd.C_alloc ?_ _) | (with_reducible refine Kd.C_drewN ?_ _) | (with_reducible refine Kd.C_drew ?_)));(case side2=>exact (Kd.R_reads' HO282.out).2.1);rintro e w6 ⟨rfl,hb⟩;refine ⟨_,rfl,?_⟩;have n0_:=Aside0.mk (Kd.R_below (by (with_reducible repeat (first | apply Kd.R_alloc | apply Kd.R_drewN | apply Kd.R_drew));exact HO282.out) hb);have n1_:=Aside0.mk (below_step (by repeat (first | (with_reducible first | exact HB.out | apply below_alloc | apply pw_below_drewN | apply below_drew1) | exact HB.out)) hb);clear HO282;clear HB;have HO282:=n0_;have HB:=n1_;clear n0_ n1_;(try clear hb);(try clear hb2);(try clear hk);(try clear hi)))
 go_ret
 exact ⟨by first | rfl | (simp[errW_none,errW_some] <;> rfl) | (simp[*,errW_none,errW_some] <;> rfl),by repeat (first | (with_reducible first | exact HB.out | apply below_alloc | apply pw_below_drewN | apply below_drew1) | exact HB.out)⟩
def nepentheref02_power.l0:Nat→Int→Int→Int→Option (Int)
 |0,_,_,_=>none
 |k+1,x0,x3,x4=>if x4<x0 then (nepentheref02_power.l0 k x0 ((x3*2) % 4294967296) (wrap64 (x4+1))) else (some x3)
def nepentheref02_power.f (k:Nat) (a0:Int):Option (Int):=nepentheref02_power.l0 k a0 1 0
set_option maxHeartbeats 8000000 in
set_option maxRecDepth 100000 in
theorem nepentheref02_power.calls (k:Nat) (a0:Int) (r:Int) (w:World) (h:nepentheref02_power.f k a0=some r) :
  Calls Try.prog 104 #[.int .i64 a0] w fun e w'=>e=.returned (.int .u32 r)∧Drawn0 w w':=by
 have H:(nepentheref02_power.l0 k a0 1 0)=some r:=h
 clear h
 have H':=Aside0.mk H
 clear H
 go_enter Try.func104,Try.ntmps104
 go_wp2
 go_loopg [3,4] k (fun kq v3 v4 w'=>∃ (x3_1:Int) (x4_1:Int),v3=.int .u32 x3_1∧v4=.int .i64 x4_1∧Aside0 (nepentheref02_power.l0 kq a0 x3_1 x4_1=some r)∧Aside0 (kq≤k)∧Drawn0 w w')
 case atStart=>exact ⟨(1),(0),(by first | rfl | (simp;done) | (simp[*];done)),(by first | rfl | (simp;done) | (simp[*];done)),H',⟨Nat.le_refl _⟩,by repeat (first | exact Drawn0.refl _ | apply Drawn0.step)⟩
 case round=>
  clear H'
  try clear c1
  obtain ⟨x3_1,x4_1,rfl,rfl,HA,HK1,⟨m1,rfl⟩⟩:=hrel
  cases gk with
  |zero=>exact absurd HA.out (by simp[nepentheref02_power.l0])
  |succ k1=>
   have H:=HA.out
   clear HA
   simp only[nepentheref02_power.l0] at H
   by_cases c2:x4_1<a0
   ·rw[if_pos c2] at H
    have c2b0:decide (x4_1<a0)=true:=decide_eq_true c2
    clear c2
    have H':=Aside0.mk H
    clear H
    go_wp2
    go_roundg k1
    case measure=>have:=HK1.out;omega
    case rel=>exact ⟨((x3_1*2) % 4294967296),(wrap64 (x4_1+1)),(by first | rfl | (simp;done) | (simp[*];done)),(by first | rfl | (simp;done) | (simp[*];done)),H',⟨by have:=HK1.out;omega⟩,by repeat (first | exact Drawn0.refl _ | apply Drawn0.step)⟩
   rw[if_neg c2] at H
   have c2b0:decide (x4_1<a0)=false:=decide_eq_false c2
   clear c2
   obtain rfl:=Option.some.inj H
   go_wp2
   go_ret
   exact ⟨by first | rfl | (simp;done) | (simp[*];done),by repeat (first | exact Drawn0.refl _ | apply Drawn0.step)⟩
def nepentheref02_rotr.f (k:Nat) (a0:Int) (a1:Int):Option (Int):=(nepentheref02_power.f k a1).bind fun t284=>(if t284=0 then (none) else ((nepentheref02_power.f k a1).bind fun t285=>(if t285=0 then (none) else ((nepentheref02_power.f k (wrap64 (32 - a1))).bind fun t286=>(some ((((Int.tdiv a0 t284) % 4294967296)+(((Int.tmod a0 t285)*t286) % 4294967296)) % 4294967296))))))
set_option maxHeartbeats 8000000 in
set_option maxRecDepth 100000 in
theorem nepentheref02_rotr.calls (k:Nat) (a0:Int) (a1:Int) (r:Int) (w:World) (h:nepentheref02_rotr.f k a0 a1=some r) :
  Calls Try.prog 102 #[.int .u32 a0,.int .i64 a1] w fun e w'=>e=.returned (.int .u32 r)∧Drawn0 w w':=by
 have H:((nepentheref02_power.f k a1).bind fun t284=>(if t284=0 then (none) else ((nepentheref02_power.f k a1).bind fun t285=>(if t285=0 then (none) else ((nepentheref02_power.f k (wrap64 (32 - a1))).bind fun t286=>(some ((((Int.tdiv a0 t284) % 4294967296)+(((Int.tmod a0 t285)*t286) % 4294967296)) % 4294967296)))))))=some r:=h
 clear h
 replace H:=Option.bind_eq_some_iff.mp H
 obtain ⟨t284,A30,H⟩:=H
 replace H:(if t284=0 then (none) else ((nepentheref02_power.f k a1).bind fun t285=>(if t285=0 then (none) else ((nepentheref02_power.f k (wrap64 (32 - a1))).bind fun t286=>(some ((((Int.tdiv a0 t284) % 4294967296)+(((Int.tmod a0 t285)*t286) % 4294967296)) % 4294967296))))))=some r:=H
 have A3:=Aside0.mk A30
 clear A30
 by_cases c4:t284=0
 ·rw[if_pos c4] at H
  exact absurd H (by simp)
 rw[if_neg c4] at H
 have c4b0:(t284 == 0)=false:=beq_eq_false_iff_ne.mpr c4
 have c4b1:(t284 != 0)=true:=bne_iff_ne.mpr c4
 replace H:=Option.bind_eq_some_iff.mp H
 obtain ⟨t285,A50,H⟩:=H
 replace H:(if t285=0 then (none) else ((nepentheref02_power.f k (wrap64 (32 - a1))).bind fun t286=>(some ((((Int.tdiv a0 t284) % 4294967296)+(((Int.tmod a0 t285)*t286) % 4294967296)) % 4294967296))))=some r:=H
 have A5:=Aside0.mk A50
 try have hEA5:t285=t284:=Option.some.inj (A5.out.symm.trans A3.out)
 clear A50
 by_cases c6:t285=0
 ·rw[if_pos c6] at H
  exact absurd H (by simp)
 rw[if_neg c6] at H
 have c6b0:(t285 == 0)=false:=beq_eq_false_iff_ne.mpr c6
 have c6b1:(t285 != 0)=true:=bne_iff_ne.mpr c6
 replace H:=Option.bind_eq_some_iff.mp H
 obtain ⟨t286,A70,H⟩:=H
 replace H:(some ((((Int.tdiv a0 t284) % 4294967296)+(((Int.tmod a0 t285)*t286) % 4294967296)) % 4294967296))=some r:=H
 have A7:=Aside0.mk A70
 clear A70
 obtain rfl:=Option.some.inj H
 go_enter Try.func102,Try.ntmps102
 go_wp2_with (first | (go_at_call 104;(with_reducible refine (nepentheref02_power.calls k a1 t284 _ A3.out).mono ?_);rintro e w' ⟨rfl,⟨nd,rfl⟩⟩;(try first | exact ⟨rfl,_,World.drewN_drewN _ _ _⟩ | exact ⟨rfl,_,Eq.trans (World.drewN_drewN _ _ _) (congrArg (World.drewN _) (Nat.add_assoc _ _ _))⟩)) | (go_at_call 104;(with_reducible refine (nepentheref02_power.calls k a1 t285 _ A5.out).mono ?_);rintro e w' ⟨rfl,⟨nd,rfl⟩⟩;(try first | exact ⟨rfl,_,World.drewN_drewN _ _ _⟩ | exact ⟨rfl,_,Eq.trans (World.drewN_drewN _ _ _) (congrArg (World.drewN _) (Nat.add_assoc _ _ _))⟩)) | (go_at_call 104;(with_reducible refine (nepentheref02_power.calls k (wrap64 (32 - a1)) t286 _ A7.out).mono ?_);rintro e w' ⟨rfl,⟨nd,rfl⟩⟩;(try first | exact ⟨rfl,_,World.drewN_drewN _ _ _⟩ | exact ⟨rfl,_,Eq.trans (World.drewN_drewN _ _ _) (congrArg (World.drewN _) (Nat.add_assoc _ _ _))⟩)))
 repeat (go_quiet (first | (go_at_call 104;(with_reducible refine (nepentheref02_power.calls k a1 t284 _ A3.out).mono ?_);rintro e w' ⟨rfl,⟨nd,rfl⟩⟩;(try first | exact ⟨rfl,_,World.drewN_drewN _ _ _⟩ | exact ⟨rfl,_,Eq.trans (World.drewN_drewN _ _ _) (congrArg (World.drewN _) (Nat.add_assoc _ _ _))⟩)) | (go_at_call 104;(with_reducible refine (nepentheref02_power.calls k a1 t285 _ A5.out).mono ?_);rintro e w' ⟨rfl,⟨nd,rfl⟩⟩;(try first | exact ⟨rfl,_,World.drewN_drewN _ _ _⟩ | exact ⟨rfl,_,Eq.trans (World.drewN_drewN _ _ _) (congrArg (World.drewN _) (Nat.add_assoc _ _ _))⟩)) | (go_at_call 104;(with_reducible refine (nepentheref02_power.calls k (wrap64 (32 - a1)) t286 _ A7.out).mono ?_);rintro e w' ⟨rfl,⟨nd,rfl⟩⟩;(try first | exact ⟨rfl,_,World.drewN_drewN _ _ _⟩ | exact ⟨rfl,_,Eq.trans (World.drewN_drewN _ _ _) (congrArg (World.drewN _) (Nat.add_assoc _ _ _))⟩)));try go_wp2_with (first | (go_at_call 104;(with_reducible refine (nepentheref02_power.calls k a1 t284 _ A3.out).mono ?_);rintro e w' ⟨rfl,⟨nd,rfl⟩⟩;(try first | exact ⟨rfl,_,World.drewN_drewN _ _ _⟩ | exact ⟨rfl,_,Eq.trans (World.drewN_drewN _ _ _) (congrArg (World.drewN _) (Nat.add_assoc _ _ _))⟩)) | (go_at_call 104;(with_reducible refine (nepentheref02_power.calls k a1 t285 _ A5.out).mono ?_);rintro e w' ⟨rfl,⟨nd,rfl⟩⟩;(try first | exact ⟨rfl,_,World.drewN_drewN _ _ _⟩ | exact ⟨rfl,_,Eq.trans (World.drewN_drewN _ _ _) (congrArg (World.drewN _) (Nat.add_assoc _ _ _))⟩)) | (go_at_call 104;(with_reducible refine (nepentheref02_power.calls k (wrap64 (32 - a1)) t286 _ A7.out).mono ?_);rintro e w' ⟨rfl,⟨nd,rfl⟩⟩;(try first | exact ⟨rfl,_,World.drewN_drewN _ _ _⟩ | exact ⟨rfl,_,Eq.trans (World.drewN_drewN _ _ _) (congrArg (World.drewN _) (Nat.add_assoc _ _ _))⟩))))
 go_ret
 exact ⟨by first | rfl | (simp;done) | (simp[*];done),by repeat (first | exact Drawn0.refl _ | apply Drawn0.step)⟩
end Go.Proofs.Ytbajioiiaamokaa.QB
