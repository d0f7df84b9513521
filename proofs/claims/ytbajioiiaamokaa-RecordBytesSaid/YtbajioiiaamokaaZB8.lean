/- QBx6, pruned (slim.py). -/
import Derived.Test.YtbajioiiaamokaaZB4
import Derived.Test.YtbajioiiaamokaaZB7
namespace Go.Proofs.Ytbajioiiaamokaa.Own
end Go.Proofs.Ytbajioiiaamokaa.Own
namespace Go.Proofs.Ytbajioiiaamokaa.QB
open Go.RowKit Go.Proofs.Ytbajioiiaamokaa.Own Go.Proofs.YtbajioiiaamokaaW.PrintWords Go.Proofs.YtbajioiiaamokaaW.PrintLast Go.Proofs.YtbajioiiaamokaaW.PrintMore
attribute [local go_sem] max2_int min2_int max_two min_two max_three min_three max_four min_four
set_option linter.unusedVariables false
set_option linter.unusedSimpArgs false
def nepentheref02_words.l0:Nat→List Int→List Int→Int→Option (List Int)
 |0,_,_,_=>none
 |k+1,x0,x3,x4=>if x4<64 then (if x4<16 then (if 0≤(wrap64 (4*x4)) then (if (wrap64 (4*x4))≤(wrap64 ((wrap64 (4*x4))+4)) then (if (wrap64 ((wrap64 (4*x4))+4))≤(x0.length:Int) then ((nepentheref01_Num.f k ((x0.take ((wrap64 ((wrap64 (4*x4))+4)):Int).toNat).drop ((wrap64 (4*x4)):Int).toNat)).bind fun t291=>(if x3.length<35184372088832 then (nepentheref02_words.l0 k x0 (x3 ++ [(t291) % 4294967296]) (wrap64 (x4+1))) else (none))) else (none)) else (none)) else (none)) else (if 0≤(wrap64 (x4 - 15)) then (if (wrap64 (x4 - 15))<(x3.length:Int) then (if 0≤(wrap64 (x4 - 2)) then (if (wrap64 (x4 - 2))<(x3.length:Int) then ((nepentheref02_rotr.f k (rd x3 (wrap64 (x4 - 2))) 17).bind fun t297=>((nepentheref02_rotr.f k (rd x3 (wrap64 (x4 - 2))) 19).bind fun t298=>((nepentheref02_power.f k 10).bind fun t299=>(if t299=0 then (none) else (if 0≤(wrap64 (x4 - 7)) then (if (wrap64 (x4 - 7))<(x3.length:Int) then ((nepentheref02_rotr.f k (rd x3 (wrap64 (x4 - 15))) 7).bind fun t301=>((nepentheref02_rotr.f k (rd x3 (wrap64 (x4 - 15))) 18).bind fun t302=>((nepentheref02_power.f k 3).bind fun t303=>(if t303=0 then (none) else (if 0≤(wrap64 (x4 - 16)) then (if (wrap64 (x4 - 16))<(x3.length:Int) then (if x3.length<35184372088832 then (nepentheref02_words.l0 k x0 (x3 ++ [((((((Go.bits .xor .u32 (Go.bits .xor .u32 t297 t298) ((Int.tdiv (rd x3 (wrap64 (x4 - 2))) t299) % 4294967296))+(rd x3 (wrap64 (x4 - 7)))) % 4294967296)+(Go.bits .xor .u32 (Go.bits .xor .u32 t301 t302) ((Int.tdiv (rd x3 (wrap64 (x4 - 15))) t303) % 4294967296))) % 4294967296)+(rd x3 (wrap64 (x4 - 16)))) % 4294967296]) (wrap64 (x4+1))) else (none)) else (none)) else (none)))))) else (none)) else (none)))))) else (none)) else (none)) else (none)) else (none))) else (some x3)
def nepentheref02_words.f (k:Nat) (l0:List Int):Option (List Int):=nepentheref02_words.l0 k l0 (([]:List Int)) 0
def nepentheref02_words.T9:Bool × List (List Nat × List Nat):=(true,[([],[]),([],[]),([1],[1]),([],[]),([3,2],[3]),([2,4],[2,4]),([],[]),([4],[]),([6,7],[6,7]),([5,8],[5,8]),([],[]),([],[]),([11],[11]),([10,12],[10,12]),([13],[13]),([9,14],[9,14]),([],[]),([16,7],[16]),([],[]),([18,17],[18]),([17,19],[17,19]),([],[]),([19],[]),([21,22],[21,22]),([20,23],[20,23]),([15,24],[15,24]),([],[]),([],[]),([27],[27]),([26,28],[26,28]),([29],[29]),([25,30],[25,30]),([31],[31]),([0,32,22],[0,32]),([33,33,0,1,2,3,4,5,6,7,8,9,10,11,12,13,14,15,16,17,18,19,20,21,22,23,24,25,26,27,28,29,30,31,32,33],[0,10,26,33])])
def nepentheref02_words.B9:List Nat:=[0,0,2,0,14,30,0,30,222,510,0,0,2048,7168,15360,32766,0,65694,0,458910,983198,0,983198,7274654,16711838,33554430,0,0,134217728,469762048,1006632960,2147483646,4294967294,8589934591,17179869183]
theorem nepentheref02_words.tab9:rtab .any (opsOf Try.f100 9)=nepentheref02_words.T9:=by kernel_rfl
theorem nepentheref02_words.bits9:waitsOk nepentheref02_words.T9.2 nepentheref02_words.B9=true:=by kernel_rfl
set_option maxHeartbeats 8000000 in
set_option maxRecDepth 100000 in
theorem nepentheref02_words.calls (k:Nat) (A0:Option Addr) (c0:Nat) (l0:List Int) (r:List Int) (w:World) (hr0:Kd.C (Kd.int .u8) w A0 l0.length l0) (hc0:l0.length≤c0) (h:nepentheref02_words.f k l0=some r) :
  Calls Try.prog 100 #[.slice A0 l0.length c0] w fun e w'=>∃ v0_:Value,e=.returned (v0_)∧Kd.R (Kd.int .u32) 87 w' w.heap.size (fun _=>True) v0_ r∧Below w.heap.size w w':=by
 have HR0:=Aside0.mk hr0
 have HC0:=Aside0.mk hc0
 clear hr0 hc0
 have HB:=Aside0.mk (Below.refl w.heap.size w)
 have H:(nepentheref02_words.l0 k l0 (([]:List Int)) 0)=some r:=h
 clear h
 obtain ⟨y287,hy287⟩:∃ y_:List Int,y_=(([]:List Int)):=⟨_,rfl⟩
 replace H:(nepentheref02_words.l0 k l0 y287 0)=some r:=by first | (rw[hy287];with_reducible exact H) | (have H2_:=(Option.bind_some _ _).symm.trans H;rw[hy287];with_reducible exact H2_) | (have H2_:=(Option.bind_some _ _).symm.trans H;with_reducible exact H2_) | with_reducible exact H | (rw[hy287];exact H) | exact H
 have Ny287:=Aside0.mk hy287
 clear hy287
 have H':=Aside0.mk H
 clear H
 go_enter Try.func100,Try.ntmps100
 go_wp2_with (first | ((with_reducible refine gate_dst (N:=7) rfl ?_);refine Kd.R_lit (Kd.int .u32) _ 87 ?hg (N:=7) ?hd (xs:=([]:List Int)) (inner:=[]) (ok:=fun _=>True) (okp:=fun _=>True) ?hr ?hp (fun _ hk=>hk) trivial (Below.refl _ _) (Nat.le_refl _) (by simp) ?_;(case hd=>rfl);(case hg=>rfl);(case hr=>first | (go_simp;done) | (go_simp;rfl) | (go_simp;simp only[IntKind.wrap_u32,Int.emod_add_emod,Int.add_emod_emod]));(case hp=>exact (Reps.none _ _));intro v288 w2 ho3 hb hg_ hnew_;clear hg_ hnew_;(first | rw[← Ny287.out] at ho3 | (simp only[Int.reduceToNat] at ho3;rw[← Ny287.out] at ho3));have n0_:=Aside0.mk (Kd.R_lower ho3 (below_size (by repeat (first | (with_reducible first | exact HB.out | apply below_alloc | apply pw_below_drewN | apply below_drew1) | exact HB.out))));have n1_:=Aside0.mk (below_step (by repeat (first | (with_reducible first | exact HB.out | apply below_alloc | apply pw_below_drewN | apply below_drew1) | exact HB.out)) hb);clear HB;have HO289:=n0_;have HB:=n1_;clear n0_ n1_;clear hb ho3))
 go_loopg [3,4] k (fun kq v3 v4 w'=>∃ (x3_1:List Int) (x4_1:Int),v4=.int .i64 x4_1∧Aside0 (nepentheref02_words.l0 kq l0 x3_1 x4_1=some r)∧Aside0 (kq≤k)∧Aside0 (Kd.R (Kd.int .u32) 87 w' w.heap.size (fun _=>True) v3 x3_1)∧Aside0 (Below w.heap.size w w'))
 case atStart=>exact ⟨(y287),(0),(by first | rfl | (simp;done) | (simp[*];done)),H',⟨Nat.le_refl _⟩,⟨by (with_reducible repeat (first | apply Kd.R_alloc | apply Kd.R_drewN | apply Kd.R_drew));exact HO289.out⟩,⟨by repeat (first | (with_reducible first | exact HB.out | apply below_alloc | apply pw_below_drewN | apply below_drew1) | exact HB.out)⟩⟩
 case round=>
  clear H'
  try clear c1
  try clear p2
  obtain ⟨x3_1,x4_1,rfl,HA,HK1,HO_3,HB⟩:=hrel
  cases gk with
  |zero=>exact absurd HA.out (by simp[nepentheref02_words.l0])
  |succ k1=>
   have H:=HA.out
   clear HA
   simp only[nepentheref02_words.l0] at H
   by_cases c4:x4_1<64
   ·rw[if_pos c4] at H
    have c4b0:decide (x4_1<64)=true:=decide_eq_true c4
    clear c4
    by_cases c5:x4_1<16
    ·rw[if_pos c5] at H
     have c5b0:decide (x4_1<16)=true:=decide_eq_true c5
     clear c5
     obtain ⟨ji6,hji6⟩:∃ j_:Int,(wrap64 (4*x4_1))=j_:=⟨_,rfl⟩
     replace H:(if 0≤(ji6) then (if (ji6)≤(wrap64 ((ji6)+4)) then (if (wrap64 ((ji6)+4))≤(l0.length:Int) then ((nepentheref01_Num.f k1 ((l0.take ((wrap64 ((ji6)+4)):Int).toNat).drop ((ji6):Int).toNat)).bind fun t291=>(if x3_1.length<35184372088832 then (nepentheref02_words.l0 k1 l0 (x3_1 ++ [(t291) % 4294967296]) (wrap64 (x4_1+1))) else (none))) else (none)) else (none)) else (none))=some r:=by first | (rw[hji6] at H;exact H) | (simp only[hji6] at H ⊢;exact H)
     have hji6w:(IntKind.i64.wrap (4*x4_1))=ji6:=(i64_w _).trans hji6
     by_cases c7:0≤(ji6)
     ·rw[if_pos c7] at H
      have c7b0:=eq_true c7
      have c7b1:decide (0≤(ji6))=true:=decide_eq_true c7
      clear c7
      by_cases c8:(ji6)≤(wrap64 ((ji6)+4))
      ·rw[if_pos c8] at H
       have c8b0:=eq_true c8
       have c8b1:decide ((ji6)≤(wrap64 ((ji6)+4)))=true:=decide_eq_true c8
       by_cases c9:(wrap64 ((ji6)+4))≤(l0.length:Int)
       ·rw[if_pos c9] at H
        have c9b0:=eq_true c9
        have c9b1:decide ((wrap64 ((ji6)+4))≤(l0.length:Int))=true:=decide_eq_true c9
        replace H:=Option.bind_eq_some_iff.mp H
        obtain ⟨t291,A100,H⟩:=H
        replace H:(if x3_1.length<35184372088832 then (nepentheref02_words.l0 k1 l0 (x3_1 ++ [(t291) % 4294967296]) (wrap64 (x4_1+1))) else (none))=some r:=H
        have A10:=Aside0.mk A100
        clear A100
        by_cases c11:x3_1.length<35184372088832
        ·rw[if_pos c11] at H
         have LMc11:=Aside0.mk c11
         clear c11
         obtain ⟨y292,hy292⟩:∃ y_:List Int,y_=(x3_1 ++ [(t291) % 4294967296]):=⟨_,rfl⟩
         replace H:(nepentheref02_words.l0 k1 l0 y292 (wrap64 (x4_1+1)))=some r:=by first | (rw[hy292];with_reducible exact H) | (have H2_:=(Option.bind_some _ _).symm.trans H;rw[hy292];with_reducible exact H2_) | (have H2_:=(Option.bind_some _ _).symm.trans H;with_reducible exact H2_) | with_reducible exact H | (rw[hy292];exact H) | exact H
         have Ny292:=Aside0.mk hy292
         clear hy292
         have H':=Aside0.mk H
         clear H
         obtain ⟨i012,hi012,_,hsz12,_⟩:=info_parts info5
         obtain ⟨A12,hcut12,hA12,hC12⟩:=print_mid_of (P:=Try.prog) (Value.int .u8) 0 23 5 .i64 .i64 Try.underlying23 hi012 hsz12 A0 c0 l0 (ji6) (wrap64 ((ji6)+4)) (of_decide_eq_true (by first | (with_reducible assumption) | assumption)) (by first | omega | exact of_decide_eq_true (by first | (with_reducible assumption) | assumption)) (of_decide_eq_true (by first | (with_reducible assumption) | assumption)) HC0.out
         have HR290:=Aside0.mk (Kd.C_of_reads (h1:=fun _=>rfl) (hA12 _ (Kd.reads_of_C HR0.out)))
         have HC290:=Aside0.mk hC12
         clear hA12 hC12 hi012 hsz12
         go_wp2_with (first | ((with_reducible refine gate_callee (f:=65) rfl ?_);refine goesL_ (some 22) rfl rfl Try.func65 (by kernel_rfl) rfl #[.slice A12 ((l0.take ((wrap64 ((ji6)+4)):Int).toNat).drop ((ji6):Int).toNat).length (c0 - (ji6).toNat)] rfl (by (try simp only[List.map_toArray,List.map_cons,List.map_nil]);first | done | (rw[show ((l0.take ((wrap64 ((ji6)+4)):Int).toNat).drop ((ji6):Int).toNat).length=((wrap64 ((ji6)+4)).toNat - (ji6).toNat) from (by rw[List.length_drop,List.length_take];have h_:((wrap64 ((ji6)+4)):Int)≤(l0.length:Int):=of_decide_eq_true (by first | (with_reducible assumption) | assumption);omega)] <;> rfl) | (simp only[hji6];rfl) | rfl | (simp only[List.length_drop,List.length_take];rfl)) ?_;(with_reducible refine (nepentheref01_Num.calls k1 _ _ ((l0.take ((wrap64 ((ji6)+4)):Int).toNat).drop ((ji6):Int).toNat) t291 _ ?side1 ?side2 A10.out).mono ?_);(case side1=>repeat (first | exact (Kd.C_below HR290.out HB.out) | (with_reducible refine Kd.C_alloc ?_ _) | (with_reducible refine Kd.C_drewN ?_ _) | (with_reducible refine Kd.C_drew ?_)));(case side2=>exact HC290.out);rintro e w13 ⟨rfl,hb⟩;refine ⟨_,rfl,?_⟩;have n0_:=Aside0.mk (Kd.R_below (by (with_reducible repeat (first | apply Kd.R_alloc | apply Kd.R_drewN | apply Kd.R_drew));exact HO_3.out) hb);have n1_:=Aside0.mk (below_step (by repeat (first | (with_reducible first | exact HB.out | apply below_alloc | apply pw_below_drewN | apply below_drew1) | exact HB.out)) hb);clear HO_3;clear HB;have HO_3:=n0_;have HB:=n1_;clear n0_ n1_;(try clear hb);(try clear hb2);(try clear hk);(try clear hi)) | ((with_reducible refine gate_builtin (b:=.append) (xs:=#[.tmp 14,.tmp 24]) rfl ?_);at_builtin;refine Kd.R_append (Kd.int .u32) (w0:=w) w.heap.size rfl (.tmp 14) (.tmp 24) 134 87 (.int .u32 0) 4 rfl Try.underlying134 info87 rfl (by decide) (by omega) u3 x3_1 ((t291) % 4294967296) [.int .u32 ((t291) % 4294967296)] (fun _=>True) (fun _=>False) rfl rfl ?aP (fun _ hk=>hk.elim) ?aF ?aO ?aB ?aS ?aL ?_;(case aP=>exact rfl);(case aB=>exact (by repeat (first | (with_reducible first | exact HB.out | apply below_alloc | apply pw_below_drewN | apply below_drew1) | exact HB.out)));(case aF=>exact (fun _ _=>trivial));(case aO=>exact (by (with_reducible repeat (first | apply Kd.R_alloc | apply Kd.R_drewN | apply Kd.R_drew));exact HO_3.out));(case aS=>exact (below_size (by repeat (first | (with_reducible first | exact HB.out | apply below_alloc | apply pw_below_drewN | apply below_drew1) | exact HB.out))));(case aL=>have:=LMc11.out;omega);intro v293 w14 ho hb hg hat;rw[← Ny292.out] at ho;have n0_:=Aside0.mk (hb);have n1_:=Aside0.mk (ho);clear HB;clear HO_3;have HB:=n0_;have HO294:=n1_;clear n0_ n1_;clear ho hb hg hat))
         go_roundg k1
         case measure=>have:=HK1.out;omega
         case rel=>exact ⟨(y292),(wrap64 (x4_1+1)),(by first | rfl | (simp;done) | (simp[*];done)),H',⟨by have:=HK1.out;omega⟩,⟨by (with_reducible repeat (first | apply Kd.R_alloc | apply Kd.R_drewN | apply Kd.R_drew));exact HO294.out⟩,⟨by repeat (first | (with_reducible first | exact HB.out | apply below_alloc | apply pw_below_drewN | apply below_drew1) | exact HB.out)⟩⟩
        rw[if_neg c11] at H
        exact absurd H (by simp)
       rw[if_neg c9] at H
       exact absurd H (by simp)
      rw[if_neg c8] at H
      exact absurd H (by simp)
     rw[if_neg c7] at H
     exact absurd H (by simp)
    rw[if_neg c5] at H
    have c5b0:decide (x4_1<16)=false:=decide_eq_false c5
    clear c5
    obtain ⟨ji15,hji15⟩:∃ j_:Int,(wrap64 (x4_1 - 15))=j_:=⟨_,rfl⟩
    replace H:(if 0≤(ji15) then (if (ji15)<(x3_1.length:Int) then (if 0≤(wrap64 (x4_1 - 2)) then (if (wrap64 (x4_1 - 2))<(x3_1.length:Int) then ((nepentheref02_rotr.f k1 (rd x3_1 (wrap64 (x4_1 - 2))) 17).bind fun t297=>((nepentheref02_rotr.f k1 (rd x3_1 (wrap64 (x4_1 - 2))) 19).bind fun t298=>((nepentheref02_power.f k1 10).bind fun t299=>(if t299=0 then (none) else (if 0≤(wrap64 (x4_1 - 7)) then (if (wrap64 (x4_1 - 7))<(x3_1.length:Int) then ((nepentheref02_rotr.f k1 (rd x3_1 (ji15)) 7).bind fun t301=>((nepentheref02_rotr.f k1 (rd x3_1 (ji15)) 18).bind fun t302=>((nepentheref02_power.f k1 3).bind fun t303=>(if t303=0 then (none) else (if 0≤(wrap64 (x4_1 - 16)) then (if (wrap64 (x4_1 - 16))<(x3_1.length:Int) then (if x3_1.length<35184372088832 then (nepentheref02_words.l0 k1 l0 (x3_1 ++ [((((((Go.bits .xor .u32 (Go.bits .xor .u32 t297 t298) ((Int.tdiv (rd x3_1 (wrap64 (x4_1 - 2))) t299) % 4294967296))+(rd x3_1 (wrap64 (x4_1 - 7)))) % 4294967296)+(Go.bits .xor .u32 (Go.bits .xor .u32 t301 t302) ((Int.tdiv (rd x3_1 (ji15)) t303) % 4294967296))) % 4294967296)+(rd x3_1 (wrap64 (x4_1 - 16)))) % 4294967296]) (wrap64 (x4_1+1))) else (none)) else (none)) else (none)))))) else (none)) else (none)))))) else (none)) else (none)) else (none)) else (none))=some r:=by first | (rw[hji15] at H;exact H) | (simp only[hji15] at H ⊢;exact H)
    have hji15w:(IntKind.i64.wrap (x4_1 - 15))=ji15:=(i64_w _).trans hji15
    by_cases c16:0≤(ji15)
    ·rw[if_pos c16] at H
     have c16b0:decide (0≤(ji15))=true:=decide_eq_true c16
     clear c16
     by_cases c17:(ji15)<(x3_1.length:Int)
     ·rw[if_pos c17] at H
      have c17b0:decide ((ji15)<(x3_1.length:Int))=true:=decide_eq_true c17
      clear c17
      obtain ⟨ji18,hji18⟩:∃ j_:Int,(wrap64 (x4_1 - 2))=j_:=⟨_,rfl⟩
      replace H:(if 0≤(ji18) then (if (ji18)<(x3_1.length:Int) then ((nepentheref02_rotr.f k1 (rd x3_1 (ji18)) 17).bind fun t297=>((nepentheref02_rotr.f k1 (rd x3_1 (ji18)) 19).bind fun t298=>((nepentheref02_power.f k1 10).bind fun t299=>(if t299=0 then (none) else (if 0≤(wrap64 (x4_1 - 7)) then (if (wrap64 (x4_1 - 7))<(x3_1.length:Int) then ((nepentheref02_rotr.f k1 (rd x3_1 (ji15)) 7).bind fun t301=>((nepentheref02_rotr.f k1 (rd x3_1 (ji15)) 18).bind fun t302=>((nepentheref02_power.f k1 3).bind fun t303=>(if t303=0 then (none) else (if 0≤(wrap64 (x4_1 - 16)) then (if (wrap64 (x4_1 - 16))<(x3_1.length:Int) then (if x3_1.length<35184372088832 then (nepentheref02_words.l0 k1 l0 (x3_1 ++ [((((((Go.bits .xor .u32 (Go.bits .xor .u32 t297 t298) ((Int.tdiv (rd x3_1 (ji18)) t299) % 4294967296))+(rd x3_1 (wrap64 (x4_1 - 7)))) % 4294967296)+(Go.bits .xor .u32 (Go.bits .xor .u32 t301 t302) ((Int.tdiv (rd x3_1 (ji15)) t303) % 4294967296))) % 4294967296)+(rd x3_1 (wrap64 (x4_1 - 16)))) % 4294967296]) (wrap64 (x4_1+1))) else (none)) else (none)) else (none)))))) else (none)) else (none)))))) else (none)) else (none))=some r:=by first | (rw[hji18] at H;exact H) | (simp only[hji18] at H ⊢;exact H)
      have hji18w:(IntKind.i64.wrap (x4_1 - 2))=ji18:=(i64_w _).trans hji18
      by_cases c19:0≤(ji18)
      ·rw[if_pos c19] at H
       have c19b0:decide (0≤(ji18))=true:=decide_eq_true c19
       clear c19
       by_cases c20:(ji18)<(x3_1.length:Int)
       ·rw[if_pos c20] at H
        have c20b0:decide ((ji18)<(x3_1.length:Int))=true:=decide_eq_true c20
        clear c20
        replace H:=Option.bind_eq_some_iff.mp H
        obtain ⟨t297,A210,H⟩:=H
        replace H:((nepentheref02_rotr.f k1 (rd x3_1 (ji18)) 19).bind fun t298=>((nepentheref02_power.f k1 10).bind fun t299=>(if t299=0 then (none) else (if 0≤(wrap64 (x4_1 - 7)) then (if (wrap64 (x4_1 - 7))<(x3_1.length:Int) then ((nepentheref02_rotr.f k1 (rd x3_1 (ji15)) 7).bind fun t301=>((nepentheref02_rotr.f k1 (rd x3_1 (ji15)) 18).bind fun t302=>((nepentheref02_power.f k1 3).bind fun t303=>(if t303=0 then (none) else (if 0≤(wrap64 (x4_1 - 16)) then (if (wrap64 (x4_1 - 16))<(x3_1.length:Int) then (if x3_1.length<35184372088832 then (nepentheref02_words.l0 k1 l0 (x3_1 ++ [((((((Go.bits .xor .u32 (Go.bits .xor .u32 t297 t298) ((Int.tdiv (rd x3_1 (ji18)) t299) % 4294967296))+(rd x3_1 (wrap64 (x4_1 - 7)))) % 4294967296)+(Go.bits .xor .u32 (Go.bits .xor .u32 t301 t302) ((Int.tdiv (rd x3_1 (ji15)) t303) % 4294967296))) % 4294967296)+(rd x3_1 (wrap64 (x4_1 - 16)))) % 4294967296]) (wrap64 (x4_1+1))) else (none)) else (none)) else (none)))))) else (none)) else (none)))))=some r:=H
        have A21:=Aside0.mk A210
        clear A210
        replace H:=Option.bind_eq_some_iff.mp H
        obtain ⟨t298,A220,H⟩:=H
        replace H:((nepentheref02_power.f k1 10).bind fun t299=>(if t299=0 then (none) else (if 0≤(wrap64 (x4_1 - 7)) then (if (wrap64 (x4_1 - 7))<(x3_1.length:Int) then ((nepentheref02_rotr.f k1 (rd x3_1 (ji15)) 7).bind fun t301=>((nepentheref02_rotr.f k1 (rd x3_1 (ji15)) 18).bind fun t302=>((nepentheref02_power.f k1 3).bind fun t303=>(if t303=0 then (none) else (if 0≤(wrap64 (x4_1 - 16)) then (if (wrap64 (x4_1 - 16))<(x3_1.length:Int) then (if x3_1.length<35184372088832 then (nepentheref02_words.l0 k1 l0 (x3_1 ++ [((((((Go.bits .xor .u32 (Go.bits .xor .u32 t297 t298) ((Int.tdiv (rd x3_1 (ji18)) t299) % 4294967296))+(rd x3_1 (wrap64 (x4_1 - 7)))) % 4294967296)+(Go.bits .xor .u32 (Go.bits .xor .u32 t301 t302) ((Int.tdiv (rd x3_1 (ji15)) t303) % 4294967296))) % 4294967296)+(rd x3_1 (wrap64 (x4_1 - 16)))) % 4294967296]) (wrap64 (x4_1+1))) else (none)) else (none)) else (none)))))) else (none)) else (none))))=some r:=H
        have A22:=Aside0.mk A220
        clear A220
        replace H:=Option.bind_eq_some_iff.mp H
        obtain ⟨t299,A230,H⟩:=H
        replace H:(if t299=0 then (none) else (if 0≤(wrap64 (x4_1 - 7)) then (if (wrap64 (x4_1 - 7))<(x3_1.length:Int) then ((nepentheref02_rotr.f k1 (rd x3_1 (ji15)) 7).bind fun t301=>((nepentheref02_rotr.f k1 (rd x3_1 (ji15)) 18).bind fun t302=>((nepentheref02_power.f k1 3).bind fun t303=>(if t303=0 then (none) else (if 0≤(wrap64 (x4_1 - 16)) then (if (wrap64 (x4_1 - 16))<(x3_1.length:Int) then (if x3_1.length<35184372088832 then (nepentheref02_words.l0 k1 l0 (x3_1 ++ [((((((Go.bits .xor .u32 (Go.bits .xor .u32 t297 t298) ((Int.tdiv (rd x3_1 (ji18)) t299) % 4294967296))+(rd x3_1 (wrap64 (x4_1 - 7)))) % 4294967296)+(Go.bits .xor .u32 (Go.bits .xor .u32 t301 t302) ((Int.tdiv (rd x3_1 (ji15)) t303) % 4294967296))) % 4294967296)+(rd x3_1 (wrap64 (x4_1 - 16)))) % 4294967296]) (wrap64 (x4_1+1))) else (none)) else (none)) else (none)))))) else (none)) else (none)))=some r:=H
        have A23:=Aside0.mk A230
        clear A230
        by_cases c24:t299=0
        ·rw[if_pos c24] at H
         exact absurd H (by simp)
        rw[if_neg c24] at H
        have c24b0:(t299 == 0)=false:=beq_eq_false_iff_ne.mpr c24
        have c24b1:(t299 != 0)=true:=bne_iff_ne.mpr c24
        obtain ⟨ji25,hji25⟩:∃ j_:Int,(wrap64 (x4_1 - 7))=j_:=⟨_,rfl⟩
        replace H:(if 0≤(ji25) then (if (ji25)<(x3_1.length:Int) then ((nepentheref02_rotr.f k1 (rd x3_1 (ji15)) 7).bind fun t301=>((nepentheref02_rotr.f k1 (rd x3_1 (ji15)) 18).bind fun t302=>((nepentheref02_power.f k1 3).bind fun t303=>(if t303=0 then (none) else (if 0≤(wrap64 (x4_1 - 16)) then (if (wrap64 (x4_1 - 16))<(x3_1.length:Int) then (if x3_1.length<35184372088832 then (nepentheref02_words.l0 k1 l0 (x3_1 ++ [((((((Go.bits .xor .u32 (Go.bits .xor .u32 t297 t298) ((Int.tdiv (rd x3_1 (ji18)) t299) % 4294967296))+(rd x3_1 (ji25))) % 4294967296)+(Go.bits .xor .u32 (Go.bits .xor .u32 t301 t302) ((Int.tdiv (rd x3_1 (ji15)) t303) % 4294967296))) % 4294967296)+(rd x3_1 (wrap64 (x4_1 - 16)))) % 4294967296]) (wrap64 (x4_1+1))) else (none)) else (none)) else (none)))))) else (none)) else (none))=some r:=by first | (rw[hji25] at H;exact H) | (simp only[hji25] at H ⊢;exact H)
        (try rw[hji25] at A21)
        (try rw[hji25] at A22)
        (try rw[hji25] at A23)
        have hji25w:(IntKind.i64.wrap (x4_1 - 7))=ji25:=(i64_w _).trans hji25
        by_cases c26:0≤(ji25)
        ·rw[if_pos c26] at H
         have c26b0:decide (0≤(ji25))=true:=decide_eq_true c26
         clear c26
         by_cases c27:(ji25)<(x3_1.length:Int)
         ·rw[if_pos c27] at H
          have c27b0:decide ((ji25)<(x3_1.length:Int))=true:=decide_eq_true c27
          clear c27
          replace H:=Option.bind_eq_some_iff.mp H
          obtain ⟨t301,A280,H⟩:=H
          replace H:((nepentheref02_rotr.f k1 (rd x3_1 (ji15)) 18).bind fun t302=>((nepentheref02_power.f k1 3).bind fun t303=>(if t303=0 then (none) else (if 0≤(wrap64 (x4_1 - 16)) then (if (wrap64 (x4_1 - 16))<(x3_1.length:Int) then (if x3_1.length<35184372088832 then (nepentheref02_words.l0 k1 l0 (x3_1 ++ [((((((Go.bits .xor .u32 (Go.bits .xor .u32 t297 t298) ((Int.tdiv (rd x3_1 (ji18)) t299) % 4294967296))+(rd x3_1 (ji25))) % 4294967296)+(Go.bits .xor .u32 (Go.bits .xor .u32 t301 t302) ((Int.tdiv (rd x3_1 (ji15)) t303) % 4294967296))) % 4294967296)+(rd x3_1 (wrap64 (x4_1 - 16)))) % 4294967296]) (wrap64 (x4_1+1))) else (none)) else (none)) else (none)))))=some r:=H
          have A28:=Aside0.mk A280
          clear A280
          replace H:=Option.bind_eq_some_iff.mp H
          obtain ⟨t302,A290,H⟩:=H
          replace H:((nepentheref02_power.f k1 3).bind fun t303=>(if t303=0 then (none) else (if 0≤(wrap64 (x4_1 - 16)) then (if (wrap64 (x4_1 - 16))<(x3_1.length:Int) then (if x3_1.length<35184372088832 then (nepentheref02_words.l0 k1 l0 (x3_1 ++ [((((((Go.bits .xor .u32 (Go.bits .xor .u32 t297 t298) ((Int.tdiv (rd x3_1 (ji18)) t299) % 4294967296))+(rd x3_1 (ji25))) % 4294967296)+(Go.bits .xor .u32 (Go.bits .xor .u32 t301 t302) ((Int.tdiv (rd x3_1 (ji15)) t303) % 4294967296))) % 4294967296)+(rd x3_1 (wrap64 (x4_1 - 16)))) % 4294967296]) (wrap64 (x4_1+1))) else (none)) else (none)) else (none))))=some r:=H
          have A29:=Aside0.mk A290
          clear A290
          replace H:=Option.bind_eq_some_iff.mp H
          obtain ⟨t303,A300,H⟩:=H
          replace H:(if t303=0 then (none) else (if 0≤(wrap64 (x4_1 - 16)) then (if (wrap64 (x4_1 - 16))<(x3_1.length:Int) then (if x3_1.length<35184372088832 then (nepentheref02_words.l0 k1 l0 (x3_1 ++ [((((((Go.bits .xor .u32 (Go.bits .xor .u32 t297 t298) ((Int.tdiv (rd x3_1 (ji18)) t299) % 4294967296))+(rd x3_1 (ji25))) % 4294967296)+(Go.bits .xor .u32 (Go.bits .xor .u32 t301 t302) ((Int.tdiv (rd x3_1 (ji15)) t303) % 4294967296))) % 4294967296)+(rd x3_1 (wrap64 (x4_1 - 16)))) % 4294967296]) (wrap64 (x4_1+1))) else (none)) else (none)) else (none)))=some r:=H
          have A30:=Aside0.mk A300
          clear A300
          by_cases c31:t303=0
          ·rw[if_pos c31] at H
           exact absurd H (by simp)
          rw[if_neg c31] at H
          have c31b0:(t303 == 0)=false:=beq_eq_false_iff_ne.mpr c31
          have c31b1:(t303 != 0)=true:=bne_iff_ne.mpr c31
          obtain ⟨ji32,hji32⟩:∃ j_:Int,(wrap64 (x4_1 - 16))=j_:=⟨_,rfl⟩
          replace H:(if 0≤(ji32) then (if (ji32)<(x3_1.length:Int) then (if x3_1.length<35184372088832 then (nepentheref02_words.l0 k1 l0 (x3_1 ++ [((((((Go.bits .xor .u32 (Go.bits .xor .u32 t297 t298) ((Int.tdiv (rd x3_1 (ji18)) t299) % 4294967296))+(rd x3_1 (ji25))) % 4294967296)+(Go.bits .xor .u32 (Go.bits .xor .u32 t301 t302) ((Int.tdiv (rd x3_1 (ji15)) t303) % 4294967296))) % 4294967296)+(rd x3_1 (ji32))) % 4294967296]) (wrap64 (x4_1+1))) else (none)) else (none)) else (none))=some r:=by first | (rw[hji32] at H;exact H) | (simp only[hji32] at H ⊢;exact H)
          (try rw[hji32] at A21)
          (try rw[hji32] at A22)
          (try rw[hji32] at A23)
          (try rw[hji32] at A28)
          (try rw[hji32] at A29)
          (try rw[hji32] at A30)
          have hji32w:(IntKind.i64.wrap (x4_1 - 16))=ji32:=(i64_w _).trans hji32
          by_cases c33:0≤(ji32)
          ·rw[if_pos c33] at H
           have c33b0:decide (0≤(ji32))=true:=decide_eq_true c33
           clear c33
           by_cases c34:(ji32)<(x3_1.length:Int)
           ·rw[if_pos c34] at H
            have c34b0:decide ((ji32)<(x3_1.length:Int))=true:=decide_eq_true c34
            clear c34
            by_cases c35:x3_1.length<35184372088832
            ·rw[if_pos c35] at H
             have LMc35:=Aside0.mk c35
             clear c35
             obtain ⟨y305,hy305⟩:∃ y_:List Int,y_=(x3_1 ++ [((((((Go.bits .xor .u32 (Go.bits .xor .u32 t297 t298) ((Int.tdiv (rd x3_1 (ji18)) t299) % 4294967296))+(rd x3_1 (ji25))) % 4294967296)+(Go.bits .xor .u32 (Go.bits .xor .u32 t301 t302) ((Int.tdiv (rd x3_1 (ji15)) t303) % 4294967296))) % 4294967296)+(rd x3_1 (ji32))) % 4294967296]):=⟨_,rfl⟩
             replace H:(nepentheref02_words.l0 k1 l0 y305 (wrap64 (x4_1+1)))=some r:=by first | (rw[hy305];with_reducible exact H) | (have H2_:=(Option.bind_some _ _).symm.trans H;rw[hy305];with_reducible exact H2_) | (have H2_:=(Option.bind_some _ _).symm.trans H;with_reducible exact H2_) | with_reducible exact H | (rw[hy305];exact H) | exact H
             have Ny305:=Aside0.mk hy305
             clear hy305
             have H':=Aside0.mk H
             clear H
             obtain ⟨Ao36,co36,eo36⟩:=Kd.R_slice HO_3.out
             subst eo36
             have p295:0≤((ji15):Int):=of_decide_eq_true (by first | (with_reducible assumption) | assumption)
             have q295:(ji15)<(x3_1.length:Int):=of_decide_eq_true (by first | (with_reducible assumption) | assumption)
             obtain ⟨ad295,e295,hx295_0⟩:=Kd.at_int (Kd.R_reads' HO_3.out).2.2 (ji15) p295 q295
             cases e295
             replace p295:=eq_true p295
             replace q295:=eq_true q295
             have p296:0≤((ji18):Int):=of_decide_eq_true (by first | (with_reducible assumption) | assumption)
             have q296:(ji18)<(x3_1.length:Int):=of_decide_eq_true (by first | (with_reducible assumption) | assumption)
             obtain ⟨ad296,e296,hx296_0⟩:=Kd.at_int (Kd.R_reads' HO_3.out).2.2 (ji18) p296 q296
             obtain rfl:ad295=ad296:=(by injection e296)
             replace p296:=eq_true p296
             replace q296:=eq_true q296
             try go_wp2
             have n0_:=Aside0.mk (Kd.R_drew HO_3.out)
             have n1_:=Aside0.mk (below_drew1 HB.out)
             clear HO_3
             clear HB
             have HO_3:=n0_
             have HB:=n1_
             clear n0_ n1_
             have p300:0≤((ji25):Int):=of_decide_eq_true (by first | (with_reducible assumption) | assumption)
             have q300:(ji25)<(x3_1.length:Int):=of_decide_eq_true (by first | (with_reducible assumption) | assumption)
             obtain ⟨ad300,e300,hx300_0⟩:=Kd.at_int (Kd.R_reads' HO_3.out).2.2 (ji25) p300 q300
             obtain rfl:ad295=ad300:=(by injection e300)
             replace p300:=eq_true p300
             replace q300:=eq_true q300
             have p304:0≤((ji32):Int):=of_decide_eq_true (by first | (with_reducible assumption) | assumption)
             have q304:(ji32)<(x3_1.length:Int):=of_decide_eq_true (by first | (with_reducible assumption) | assumption)
             obtain ⟨ad304,e304,hx304_0⟩:=Kd.at_int (Kd.R_reads' HO_3.out).2.2 (ji32) p304 q304
             obtain rfl:ad295=ad304:=(by injection e304)
             replace p304:=eq_true p304
             replace q304:=eq_true q304
             refine start_ (n:=35) (S:=fun w'=>w'.cell? (ad295.add ((ji25)).toNat)=some (.int .u32 (rd x3_1 (ji25)))∧w'.cell? (ad295.add ((ji32)).toNat)=some (.int .u32 (rd x3_1 (ji32)))) (ds:=[32,33]) #[false,false,false,false,false,false,false,false,false,false,false,false,false,false,false,false,false,false,false,false,false,false,false,false,false,false,false,false,false,false,false,false,false,false,false] (by kernel_rfl) rfl rfl ⟨hx300_0,hx304_0⟩ (fun hHeld=>?_);refine with_tabW nepentheref02_words.tab9 nepentheref02_words.bits9 (fun HT_ HW_=>?_)
             generalize wr.drew=w37 at HO_3 HB hx300_0 hx304_0 hHeld ⊢
             refine pure_ (i:=0) (N:=some 36) (v:=?_) (a':=?_) #[true,false,false,false,false,false,false,false,false,false,false,false,false,false,false,false,false,false,false,false,false,false,false,false,false,false,false,false,false,false,false,false,false,false,false] rfl rfl (any_of HT_.out (by kernel_rfl)) (fun _ _ _ h=>h) (Or.inl ⟨by rfl,?_⟩) ?_ ?_
             rotate_left
             ·intro w';go_simp;with_reducible rfl
             rotate_left
             ·simp only[Act.put,sZ0,sZ1,sZ2,i64_w,i32_w];rfl
             refine pure_ (i:=1) (N:=some 37) (v:=?_) (a':=?_) #[true,true,false,false,false,false,false,false,false,false,false,false,false,false,false,false,false,false,false,false,false,false,false,false,false,false,false,false,false,false,false,false,false,false,false] rfl rfl (any_of HT_.out (by kernel_rfl)) (fun _ _ _ h=>h) (Or.inl ⟨by rfl,?_⟩) ?_ ?_
             rotate_left
             ·intro w';go_simp;with_reducible rfl
             rotate_left
             ·simp only[Act.put,sZ0,sZ1,sZ2,i64_w,i32_w];rfl
             refine pure_ (i:=3) (N:=some 39) (v:=?_) (a':=?_) #[true,true,false,true,false,false,false,false,false,false,false,false,false,false,false,false,false,false,false,false,false,false,false,false,false,false,false,false,false,false,false,false,false,false,false] rfl rfl (any_of HT_.out (by kernel_rfl)) (fun _ _ _ h=>h) (Or.inl ⟨by rfl,?_⟩) ?_ ?_
             rotate_left
             ·intro w';go_simp;with_reducible rfl
             rotate_left
             ·simp only[Act.put,sZ0,sZ1,sZ2,i64_w,i32_w];rfl
             refine pure_ (i:=6) (N:=some 42) (v:=?_) (a':=?_) #[true,true,false,true,false,false,true,false,false,false,false,false,false,false,false,false,false,false,false,false,false,false,false,false,false,false,false,false,false,false,false,false,false,false,false] rfl rfl (any_of HT_.out (by kernel_rfl)) (fun _ _ _ h=>h) (Or.inl ⟨by rfl,?_⟩) ?_ ?_
             rotate_left
             ·intro w';go_simp;with_reducible rfl
             rotate_left
             ·simp only[Act.put,sZ0,sZ1,sZ2,i64_w,i32_w];rfl
             refine pure_ (i:=10) (N:=some 46) (v:=?_) (a':=?_) #[true,true,false,true,false,false,true,false,false,false,true,false,false,false,false,false,false,false,false,false,false,false,false,false,false,false,false,false,false,false,false,false,false,false,false] rfl rfl (any_of HT_.out (by kernel_rfl)) (fun _ _ _ h=>h) (Or.inl ⟨by rfl,?_⟩) ?_ ?_
             rotate_left
             ·intro w';go_simp;with_reducible rfl
             rotate_left
             ·simp only[Act.put,sZ0,sZ1,sZ2,i64_w,i32_w];rfl
             refine pure_ (i:=11) (N:=some 47) (v:=?_) (a':=?_) #[true,true,false,true,false,false,true,false,false,false,true,true,false,false,false,false,false,false,false,false,false,false,false,false,false,false,false,false,false,false,false,false,false,false,false] rfl rfl (any_of HT_.out (by kernel_rfl)) (fun _ _ _ h=>h) (Or.inl ⟨by rfl,?_⟩) ?_ ?_
             rotate_left
             ·intro w';go_simp;with_reducible rfl
             rotate_left
             ·simp only[Act.put,sZ0,sZ1,sZ2,i64_w,i32_w];rfl
             refine pure_ (i:=12) (N:=some 48) (v:=?_) (a':=?_) #[true,true,false,true,false,false,true,false,false,false,true,true,true,false,false,false,false,false,false,false,false,false,false,false,false,false,false,false,false,false,false,false,false,false,false] rfl rfl (any_of HT_.out (by kernel_rfl)) (fun _ _ _ h=>h) (Or.inl ⟨by rfl,?_⟩) ?_ ?_
             rotate_left
             ·intro w';go_simp;with_reducible rfl
             rotate_left
             ·simp only[Act.put,sZ0,sZ1,sZ2,i64_w,i32_w];rfl
             refine pure_ (i:=13) (N:=some 49) (v:=?_) (a':=?_) #[true,true,false,true,false,false,true,false,false,false,true,true,true,true,false,false,false,false,false,false,false,false,false,false,false,false,false,false,false,false,false,false,false,false,false] rfl rfl (any_of HT_.out (by kernel_rfl)) (fun _ _ _ h=>h) (Or.inl ⟨by rfl,?_⟩) ?_ ?_
             rotate_left
             ·intro w';go_simp;with_reducible rfl
             rotate_left
             ·simp only[Act.put,sZ0,sZ1,sZ2,i64_w,i32_w];rfl
             refine pure_ (i:=16) (N:=some 52) (v:=?_) (a':=?_) #[true,true,false,true,false,false,true,false,false,false,true,true,true,true,false,false,true,false,false,false,false,false,false,false,false,false,false,false,false,false,false,false,false,false,false] rfl rfl (any_of HT_.out (by kernel_rfl)) (fun _ _ _ h=>h) (Or.inl ⟨by rfl,?_⟩) ?_ ?_
             rotate_left
             ·intro w';go_simp;with_reducible rfl
             rotate_left
             ·simp only[Act.put,sZ0,sZ1,sZ2,i64_w,i32_w];rfl
             refine pure_ (i:=18) (N:=some 54) (v:=?_) (a':=?_) #[true,true,false,true,false,false,true,false,false,false,true,true,true,true,false,false,true,false,true,false,false,false,false,false,false,false,false,false,false,false,false,false,false,false,false] rfl rfl (any_of HT_.out (by kernel_rfl)) (fun _ _ _ h=>h) (Or.inl ⟨by rfl,?_⟩) ?_ ?_
             rotate_left
             ·intro w';go_simp;with_reducible rfl
             rotate_left
             ·simp only[Act.put,sZ0,sZ1,sZ2,i64_w,i32_w];rfl
             refine pure_ (i:=21) (N:=some 57) (v:=?_) (a':=?_) #[true,true,false,true,false,false,true,false,false,false,true,true,true,true,false,false,true,false,true,false,false,true,false,false,false,false,false,false,false,false,false,false,false,false,false] rfl rfl (any_of HT_.out (by kernel_rfl)) (fun _ _ _ h=>h) (Or.inl ⟨by rfl,?_⟩) ?_ ?_
             rotate_left
             ·intro w';go_simp;with_reducible rfl
             rotate_left
             ·simp only[Act.put,sZ0,sZ1,sZ2,i64_w,i32_w];rfl
             refine pure_ (i:=26) (N:=some 62) (v:=?_) (a':=?_) #[true,true,false,true,false,false,true,false,false,false,true,true,true,true,false,false,true,false,true,false,false,true,false,false,false,false,true,false,false,false,false,false,false,false,false] rfl rfl (any_of HT_.out (by kernel_rfl)) (fun _ _ _ h=>h) (Or.inl ⟨by rfl,?_⟩) ?_ ?_
             rotate_left
             ·intro w';go_simp;with_reducible rfl
             rotate_left
             ·simp only[Act.put,sZ0,sZ1,sZ2,i64_w,i32_w];rfl
             refine pure_ (i:=27) (N:=some 63) (v:=?_) (a':=?_) #[true,true,false,true,false,false,true,false,false,false,true,true,true,true,false,false,true,false,true,false,false,true,false,false,false,false,true,true,false,false,false,false,false,false,false] rfl rfl (any_of HT_.out (by kernel_rfl)) (fun _ _ _ h=>h) (Or.inl ⟨by rfl,?_⟩) ?_ ?_
             rotate_left
             ·intro w';go_simp;with_reducible rfl
             rotate_left
             ·simp only[Act.put,sZ0,sZ1,sZ2,i64_w,i32_w];rfl
             refine pure_ (i:=28) (N:=some 64) (v:=?_) (a':=?_) #[true,true,false,true,false,false,true,false,false,false,true,true,true,true,false,false,true,false,true,false,false,true,false,false,false,false,true,true,true,false,false,false,false,false,false] rfl rfl (any_of HT_.out (by kernel_rfl)) (fun _ _ _ h=>h) (Or.inl ⟨by rfl,?_⟩) ?_ ?_
             rotate_left
             ·intro w';go_simp;with_reducible rfl
             rotate_left
             ·simp only[Act.put,sZ0,sZ1,sZ2,i64_w,i32_w];rfl
             refine pure_ (i:=29) (N:=some 65) (v:=?_) (a':=?_) #[true,true,false,true,false,false,true,false,false,false,true,true,true,true,false,false,true,false,true,false,false,true,false,false,false,false,true,true,true,true,false,false,false,false,false] rfl rfl (any_of HT_.out (by kernel_rfl)) (fun _ _ _ h=>h) (Or.inl ⟨by rfl,?_⟩) ?_ ?_
             rotate_left
             ·intro w';go_simp;with_reducible rfl
             rotate_left
             ·simp only[Act.put,sZ0,sZ1,sZ2,i64_w,i32_w];rfl
             refine take_ (i:=14) (N:=some 50) (v:=?_) (a':=?_) #[true,true,false,true,false,false,true,false,false,false,true,true,true,true,true,false,true,false,true,false,false,true,false,false,false,false,true,true,true,true,false,false,false,false,false] rfl rfl (take_ofW HT_.out HW_.out (by kernel_rfl)) (fun _ _ _ h=>h) (Or.inl ⟨by rfl,?_⟩) hHeld ?_ ?_
             rotate_left
             ·rintro w' ⟨s0,s1⟩
              go_simp;with_reducible rfl
             rotate_left
             ·simp only[Act.put,sZ0,sZ1,sZ2,i64_w,i32_w];rfl
             refine take_ (i:=30) (N:=some 66) (v:=?_) (a':=?_) #[true,true,false,true,false,false,true,false,false,false,true,true,true,true,true,false,true,false,true,false,false,true,false,false,false,false,true,true,true,true,true,false,false,false,false] rfl rfl (take_ofW HT_.out HW_.out (by kernel_rfl)) (fun _ _ _ h=>h) (Or.inl ⟨by rfl,?_⟩) hHeld ?_ ?_
             rotate_left
             ·rintro w' ⟨s0,s1⟩
              go_simp;with_reducible rfl
             rotate_left
             ·simp only[Act.put,sZ0,sZ1,sZ2,i64_w,i32_w];rfl
             refine one_ (i:=2) (N:=some 38) #[true,true,true,true,false,false,true,false,false,false,true,true,true,true,true,false,true,false,true,false,false,true,false,false,false,false,true,true,true,true,true,false,false,false,false] rfl rfl (one_of HT_.out (by kernel_rfl)) (by decide) (fun K hK=>?_)
             refine goes_ Try.func102 (by kernel_rfl) rfl #[.int .u32 (rd x3_1 (ji18)),.int .i64 17] (by rfl) rfl rfl (by (try simp only[List.map_toArray,List.map_cons,List.map_nil]);first | done | (simp only[hji18];rfl) | rfl | (simp only[List.length_drop,List.length_take];rfl)) ?_
             with_reducible refine (nepentheref02_rotr.calls k1 (rd x3_1 (ji18)) 17 t297 _ A21.out).mono ?_
             rintro e w' ⟨rfl,⟨nd,rfl⟩⟩
             refine ⟨_,rfl,?_⟩
             refine hK.out _ _ ⟨hHeld.1,hHeld.2⟩ (fun hHeld=>?_)
             clear hK K;refine norm_ (a':=?_) ?_ ?_
             rotate_left
             ·show Act.put _ (some 38) _=_
              simp only[Act.put,sZ0,sZ1,sZ2,i64_w,i32_w];rfl
             refine one_ (i:=4) (N:=some 40) #[true,true,true,true,true,false,true,false,false,false,true,true,true,true,true,false,true,false,true,false,false,true,false,false,false,false,true,true,true,true,true,false,false,false,false] rfl rfl (one_of HT_.out (by kernel_rfl)) (by decide) (fun K hK=>?_)
             refine goes_ Try.func102 (by kernel_rfl) rfl #[.int .u32 (rd x3_1 (ji18)),.int .i64 19] (by rfl) rfl rfl (by (try simp only[List.map_toArray,List.map_cons,List.map_nil]);first | done | (simp only[hji18];rfl) | rfl | (simp only[List.length_drop,List.length_take];rfl)) ?_
             with_reducible refine (nepentheref02_rotr.calls k1 (rd x3_1 (ji18)) 19 t298 _ A22.out).mono ?_
             rintro e w' ⟨rfl,⟨nd,rfl⟩⟩
             refine ⟨_,rfl,?_⟩
             refine hK.out _ _ ⟨hHeld.1,hHeld.2⟩ (fun hHeld=>?_)
             clear hK K;refine norm_ (a':=?_) ?_ ?_
             rotate_left
             ·show Act.put _ (some 40) _=_
              simp only[Act.put,sZ0,sZ1,sZ2,i64_w,i32_w];rfl
             refine pure_ (i:=5) (N:=some 41) (v:=?_) (a':=?_) #[true,true,true,true,true,true,true,false,false,false,true,true,true,true,true,false,true,false,true,false,false,true,false,false,false,false,true,true,true,true,true,false,false,false,false] rfl rfl (any_of HT_.out (by kernel_rfl)) (fun _ _ _ h=>h) (Or.inl ⟨by rfl,?_⟩) ?_ ?_
             rotate_left
             ·intro w';go_simp;with_reducible rfl
             rotate_left
             ·simp only[Act.put,sZ0,sZ1,sZ2,i64_w,i32_w];rfl
             refine one_ (i:=7) (N:=some 43) #[true,true,true,true,true,true,true,true,false,false,true,true,true,true,true,false,true,false,true,false,false,true,false,false,false,false,true,true,true,true,true,false,false,false,false] rfl rfl (one_of HT_.out (by kernel_rfl)) (by decide) (fun K hK=>?_)
             refine goes_ Try.func104 (by kernel_rfl) rfl #[.int .i64 10] (by rfl) rfl rfl (by (try simp only[List.map_toArray,List.map_cons,List.map_nil]);first | done | rfl | (simp only[List.length_drop,List.length_take];rfl)) ?_
             with_reducible refine (nepentheref02_power.calls k1 10 t299 _ A23.out).mono ?_
             rintro e w' ⟨rfl,⟨nd,rfl⟩⟩
             refine ⟨_,rfl,?_⟩
             refine hK.out _ _ ⟨hHeld.1,hHeld.2⟩ (fun hHeld=>?_)
             clear hK K;refine norm_ (a':=?_) ?_ ?_
             rotate_left
             ·show Act.put _ (some 43) _=_
              simp only[Act.put,sZ0,sZ1,sZ2,i64_w,i32_w];rfl
             refine pure_ (i:=8) (N:=some 44) (v:=?_) (a':=?_) #[true,true,true,true,true,true,true,true,true,false,true,true,true,true,true,false,true,false,true,false,false,true,false,false,false,false,true,true,true,true,true,false,false,false,false] rfl rfl (any_of HT_.out (by kernel_rfl)) (fun _ _ _ h=>h) (Or.inl ⟨by rfl,?_⟩) ?_ ?_
             rotate_left
             ·intro w';go_simp;with_reducible rfl
             rotate_left
             ·simp only[Act.put,sZ0,sZ1,sZ2,i64_w,i32_w];rfl
             refine pure_ (i:=9) (N:=some 45) (v:=?_) (a':=?_) #[true,true,true,true,true,true,true,true,true,true,true,true,true,true,true,false,true,false,true,false,false,true,false,false,false,false,true,true,true,true,true,false,false,false,false] rfl rfl (any_of HT_.out (by kernel_rfl)) (fun _ _ _ h=>h) (Or.inl ⟨by rfl,?_⟩) ?_ ?_
             rotate_left
             ·intro w';go_simp;with_reducible rfl
             rotate_left
             ·simp only[Act.put,sZ0,sZ1,sZ2,i64_w,i32_w];rfl
             refine pure_ (i:=15) (N:=some 51) (v:=?_) (a':=?_) #[true,true,true,true,true,true,true,true,true,true,true,true,true,true,true,true,true,false,true,false,false,true,false,false,false,false,true,true,true,true,true,false,false,false,false] rfl rfl (any_of HT_.out (by kernel_rfl)) (fun _ _ _ h=>h) (Or.inl ⟨by rfl,?_⟩) ?_ ?_
             rotate_left
             ·intro w';go_simp;with_reducible rfl
             rotate_left
             ·simp only[Act.put,sZ0,sZ1,sZ2,i64_w,i32_w];rfl
             refine one_ (i:=17) (N:=some 53) #[true,true,true,true,true,true,true,true,true,true,true,true,true,true,true,true,true,true,true,false,false,true,false,false,false,false,true,true,true,true,true,false,false,false,false] rfl rfl (one_of HT_.out (by kernel_rfl)) (by decide) (fun K hK=>?_)
             refine goes_ Try.func102 (by kernel_rfl) rfl #[.int .u32 (rd x3_1 (ji15)),.int .i64 7] (by rfl) rfl rfl (by (try simp only[List.map_toArray,List.map_cons,List.map_nil]);first | done | (simp only[hji15];rfl) | rfl | (simp only[List.length_drop,List.length_take];rfl)) ?_
             with_reducible refine (nepentheref02_rotr.calls k1 (rd x3_1 (ji15)) 7 t301 _ A28.out).mono ?_
             rintro e w' ⟨rfl,⟨nd,rfl⟩⟩
             refine ⟨_,rfl,?_⟩
             refine hK.out _ _ ⟨hHeld.1,hHeld.2⟩ (fun hHeld=>?_)
             clear hK K;refine norm_ (a':=?_) ?_ ?_
             rotate_left
             ·show Act.put _ (some 53) _=_
              simp only[Act.put,sZ0,sZ1,sZ2,i64_w,i32_w];rfl
             refine one_ (i:=19) (N:=some 55) #[true,true,true,true,true,true,true,true,true,true,true,true,true,true,true,true,true,true,true,true,false,true,false,false,false,false,true,true,true,true,true,false,false,false,false] rfl rfl (one_of HT_.out (by kernel_rfl)) (by decide) (fun K hK=>?_)
             refine goes_ Try.func102 (by kernel_rfl) rfl #[.int .u32 (rd x3_1 (ji15)),.int .i64 18] (by rfl) rfl rfl (by (try simp only[List.map_toArray,List.map_cons,List.map_nil]);first | done | (simp only[hji15];rfl) | rfl | (simp only[List.length_drop,List.length_take];rfl)) ?_
             with_reducible refine (nepentheref02_rotr.calls k1 (rd x3_1 (ji15)) 18 t302 _ A29.out).mono ?_
             rintro e w' ⟨rfl,⟨nd,rfl⟩⟩
             refine ⟨_,rfl,?_⟩
             refine hK.out _ _ ⟨hHeld.1,hHeld.2⟩ (fun hHeld=>?_)
             clear hK K;refine norm_ (a':=?_) ?_ ?_
             rotate_left
             ·show Act.put _ (some 55) _=_
              simp only[Act.put,sZ0,sZ1,sZ2,i64_w,i32_w];rfl
             refine pure_ (i:=20) (N:=some 56) (v:=?_) (a':=?_) #[true,true,true,true,true,true,true,true,true,true,true,true,true,true,true,true,true,true,true,true,true,true,false,false,false,false,true,true,true,true,true,false,false,false,false] rfl rfl (any_of HT_.out (by kernel_rfl)) (fun _ _ _ h=>h) (Or.inl ⟨by rfl,?_⟩) ?_ ?_
             rotate_left
             ·intro w';go_simp;with_reducible rfl
             rotate_left
             ·simp only[Act.put,sZ0,sZ1,sZ2,i64_w,i32_w];rfl
             refine one_ (i:=22) (N:=some 58) #[true,true,true,true,true,true,true,true,true,true,true,true,true,true,true,true,true,true,true,true,true,true,true,false,false,false,true,true,true,true,true,false,false,false,false] rfl rfl (one_of HT_.out (by kernel_rfl)) (by decide) (fun K hK=>?_)
             refine goes_ Try.func104 (by kernel_rfl) rfl #[.int .i64 3] (by rfl) rfl rfl (by (try simp only[List.map_toArray,List.map_cons,List.map_nil]);first | done | rfl | (simp only[List.length_drop,List.length_take];rfl)) ?_
             with_reducible refine (nepentheref02_power.calls k1 3 t303 _ A30.out).mono ?_
             rintro e w' ⟨rfl,⟨nd,rfl⟩⟩
             refine ⟨_,rfl,?_⟩
             refine hK.out _ _ ⟨hHeld.1,hHeld.2⟩ (fun hHeld=>?_)
             clear hK K;refine norm_ (a':=?_) ?_ ?_
             rotate_left
             ·show Act.put _ (some 58) _=_
              simp only[Act.put,sZ0,sZ1,sZ2,i64_w,i32_w];rfl
             refine pure_ (i:=23) (N:=some 59) (v:=?_) (a':=?_) #[true,true,true,true,true,true,true,true,true,true,true,true,true,true,true,true,true,true,true,true,true,true,true,true,false,false,true,true,true,true,true,false,false,false,false] rfl rfl (any_of HT_.out (by kernel_rfl)) (fun _ _ _ h=>h) (Or.inl ⟨by rfl,?_⟩) ?_ ?_
             rotate_left
             ·intro w';go_simp;with_reducible rfl
             rotate_left
             ·simp only[Act.put,sZ0,sZ1,sZ2,i64_w,i32_w];rfl
             refine pure_ (i:=24) (N:=some 60) (v:=?_) (a':=?_) #[true,true,true,true,true,true,true,true,true,true,true,true,true,true,true,true,true,true,true,true,true,true,true,true,true,false,true,true,true,true,true,false,false,false,false] rfl rfl (any_of HT_.out (by kernel_rfl)) (fun _ _ _ h=>h) (Or.inl ⟨by rfl,?_⟩) ?_ ?_
             rotate_left
             ·intro w';go_simp;with_reducible rfl
             rotate_left
             ·simp only[Act.put,sZ0,sZ1,sZ2,i64_w,i32_w];rfl
             refine pure_ (i:=25) (N:=some 61) (v:=?_) (a':=?_) #[true,true,true,true,true,true,true,true,true,true,true,true,true,true,true,true,true,true,true,true,true,true,true,true,true,true,true,true,true,true,true,false,false,false,false] rfl rfl (any_of HT_.out (by kernel_rfl)) (fun _ _ _ h=>h) (Or.inl ⟨by rfl,?_⟩) ?_ ?_
             rotate_left
             ·intro w';go_simp;with_reducible rfl
             rotate_left
             ·simp only[Act.put,sZ0,sZ1,sZ2,i64_w,i32_w];rfl
             refine pure_ (i:=31) (N:=some 67) (v:=?_) (a':=?_) #[true,true,true,true,true,true,true,true,true,true,true,true,true,true,true,true,true,true,true,true,true,true,true,true,true,true,true,true,true,true,true,true,false,false,false] rfl rfl (any_of HT_.out (by kernel_rfl)) (fun _ _ _ h=>h) (Or.inl ⟨by rfl,?_⟩) ?_ ?_
             rotate_left
             ·intro w';go_simp;with_reducible rfl
             rotate_left
             ·simp only[Act.put,sZ0,sZ1,sZ2,i64_w,i32_w];rfl
             refine last_ (i:=32) (N:=some 68) #[true,true,true,true,true,true,true,true,true,true,true,true,true,true,true,true,true,true,true,true,true,true,true,true,true,true,true,true,true,true,true,true,true,false,false] rfl rfl (one_of HT_.out (by kernel_rfl)) (by decide) (fun K hK=>?_)
             refine value_ (w1:=?_) (v:=?_) (by rfl) rfl ?_ ?_
             rotate_left 2
             ·go_simp
              constructor
              ·rfl
              rfl
             refine hK.out _ _ ?_
             clear hK K;refine norm_ (a':=?_) ?_ ?_
             rotate_left
             ·show Act.put _ (some 68) _=_
              simp only[Act.put,sZ0,sZ1,sZ2,i64_w,i32_w];rfl
             refine last_ (i:=33) (N:=some 69) #[true,true,true,true,true,true,true,true,true,true,true,true,true,true,true,true,true,true,true,true,true,true,true,true,true,true,true,true,true,true,true,true,true,true,false] rfl rfl (one_of HT_.out (by kernel_rfl)) (by decide) (fun K hK=>?_)
             refine Kd.R_append_step (Kd.int .u32) (w0:=w) w.heap.size (by rfl) (.tmp 36) (.tmp 68) 134 87 (.int .u32 0) 4 rfl Try.underlying134 info87 rfl (by decide) (by omega) (.slice (some ad295) x3_1.length co36) x3_1 (((((((Go.bits .xor .u32 (Go.bits .xor .u32 t297 t298) ((Int.tdiv (rd x3_1 (ji18)) t299) % 4294967296))+(rd x3_1 (ji25))) % 4294967296)+(Go.bits .xor .u32 (Go.bits .xor .u32 t301 t302) ((Int.tdiv (rd x3_1 (ji15)) t303) % 4294967296))) % 4294967296)+(rd x3_1 (ji32))) % 4294967296) [.int .u32 (((((((Go.bits .xor .u32 (Go.bits .xor .u32 t297 t298) ((Int.tdiv (rd x3_1 (ji18)) t299) % 4294967296))+(rd x3_1 (ji25))) % 4294967296)+(Go.bits .xor .u32 (Go.bits .xor .u32 t301 t302) ((Int.tdiv (rd x3_1 (ji15)) t303) % 4294967296))) % 4294967296)+(rd x3_1 (ji32))) % 4294967296)] (fun _=>True) (fun _=>False) rfl rfl ?aP (fun _ hk=>hk.elim) ?aF ?aO ?aB ?aS ?aL ?_
             (case aP=>exact rfl)
             (case aB=>exact (by repeat (first | (with_reducible first | exact HB.out | apply below_alloc | apply pw_below_drewN | apply below_drew1) | exact HB.out)))
             (case aF=>exact (fun _ _=>trivial))
             (case aO=>exact (by (with_reducible repeat (first | apply Kd.R_alloc | apply Kd.R_drewN | apply Kd.R_drew));exact HO_3.out))
             (case aS=>exact (below_size (by repeat (first | (with_reducible first | exact HB.out | apply below_alloc | apply pw_below_drewN | apply below_drew1) | exact HB.out))))
             (case aL=>have:=LMc35.out;omega)
             intro v306 w38 ho hb hg hat
             rw[← Ny305.out] at ho
             have n0_:=Aside0.mk (hb)
             have n1_:=Aside0.mk (ho)
             clear HB
             clear HO_3
             have HB:=n0_
             have HO307:=n1_
             clear n0_ n1_
             clear ho hb hg hat
             refine hK.out _ _ ?_
             clear hK K;refine norm_ (a':=?_) ?_ ?_
             rotate_left
             ·show Act.put _ (some 69) _=_
              simp only[Act.put,sZ0,sZ1,sZ2,i64_w,i32_w];rfl
             refine pure_ (i:=34) (N:=some 3) (v:=?_) (a':=?_) #[true,true,true,true,true,true,true,true,true,true,true,true,true,true,true,true,true,true,true,true,true,true,true,true,true,true,true,true,true,true,true,true,true,true,true] rfl rfl (any_of HT_.out (by kernel_rfl)) (fun _ _ _ h=>h) (Or.inl ⟨by rfl,?_⟩) ?_ ?_
             rotate_left
             ·intro w';go_simp;with_reducible rfl
             rotate_left
             ·simp only[Act.put,sZ0,sZ1,sZ2,i64_w,i32_w];rfl
             refine done_ (done_of HT_.out (by kernel_rfl)) ?_
             try go_wp2
             go_roundg k1
             case measure=>have:=HK1.out;omega
             case rel=>exact ⟨(y305),(wrap64 (x4_1+1)),(by first | rfl | (simp;done) | (simp[*];done)),H',⟨by have:=HK1.out;omega⟩,⟨by (with_reducible repeat (first | apply Kd.R_alloc | apply Kd.R_drewN | apply Kd.R_drew));exact HO307.out⟩,⟨by repeat (first | (with_reducible first | exact HB.out | apply below_alloc | apply pw_below_drewN | apply below_drew1) | exact HB.out)⟩⟩
            rw[if_neg c35] at H
            exact absurd H (by simp)
           rw[if_neg c34] at H
           exact absurd H (by simp)
          rw[if_neg c33] at H
          exact absurd H (by simp)
         rw[if_neg c27] at H
         exact absurd H (by simp)
        rw[if_neg c26] at H
        exact absurd H (by simp)
       rw[if_neg c20] at H
       exact absurd H (by simp)
      rw[if_neg c19] at H
      exact absurd H (by simp)
     rw[if_neg c17] at H
     exact absurd H (by simp)
    rw[if_neg c16] at H
    exact absurd H (by simp)
   rw[if_neg c4] at H
   have c4b0:decide (x4_1<64)=false:=decide_eq_false c4
   clear c4
   obtain rfl:=Option.some.inj H
   go_wp2
   go_ret
   exact ⟨_,by first | rfl | (simp[errW_none,errW_some] <;> rfl) | (simp[*,errW_none,errW_some] <;> rfl),by (with_reducible repeat (first | apply Kd.R_alloc | apply Kd.R_drewN | apply Kd.R_drew));exact HO_3.out,by repeat (first | (with_reducible first | exact HB.out | apply below_alloc | apply pw_below_drewN | apply below_drew1) | exact HB.out)⟩
def nepentheref02_Constants.f  : Option (List Int):=some (([1116352408,1899447441,3049323471,3921009573,961987163,1508970993,2453635748,2870763221,3624381080,310598401,607225278,1426881987,1925078388,2162078206,2614888103,3248222580,3835390401,4022224774,264347078,604807628,770255983,1249150122,1555081692,1996064986,2554220882,2821834349,2952996808,3210313671,3336571891,3584528711,113926993,338241895,666307205,773529912,1294757372,1396182291,1695183700,1986661051,2177026350,2456956037,2730485921,2820302411,3259730800,3345764771,3516065817,3600352804,4094571909,275423344,430227734,506948616,659060556,883997877,958139571,1322822218,1537002063,1747873779,1955562222,2024104815,2227730452,2361852424,2428436474,2756734187,3204031479,3329325298]:List Int))
set_option maxHeartbeats 8000000 in
set_option maxRecDepth 100000 in
theorem nepentheref02_Constants.calls  (r:List Int) (w:World) (h:nepentheref02_Constants.f  = some r) :
  Calls Try.prog 101 #[] w fun e w'=>∃ v0_:Value,e=.returned (v0_)∧Kd.R (Kd.int .u32) 87 w' w.heap.size (fun _=>True) v0_ r∧Below w.heap.size w w':=by
 have HB:=Aside0.mk (Below.refl w.heap.size w)
 have H:(some (([1116352408,1899447441,3049323471,3921009573,961987163,1508970993,2453635748,2870763221,3624381080,310598401,607225278,1426881987,1925078388,2162078206,2614888103,3248222580,3835390401,4022224774,264347078,604807628,770255983,1249150122,1555081692,1996064986,2554220882,2821834349,2952996808,3210313671,3336571891,3584528711,113926993,338241895,666307205,773529912,1294757372,1396182291,1695183700,1986661051,2177026350,2456956037,2730485921,2820302411,3259730800,3345764771,3516065817,3600352804,4094571909,275423344,430227734,506948616,659060556,883997877,958139571,1322822218,1537002063,1747873779,1955562222,2024104815,2227730452,2361852424,2428436474,2756734187,3204031479,3329325298]:List Int)))=some r:=h
 clear h
 obtain ⟨y308,hy308⟩:∃ y_:List Int,y_=(([1116352408,1899447441,3049323471,3921009573,961987163,1508970993,2453635748,2870763221,3624381080,310598401,607225278,1426881987,1925078388,2162078206,2614888103,3248222580,3835390401,4022224774,264347078,604807628,770255983,1249150122,1555081692,1996064986,2554220882,2821834349,2952996808,3210313671,3336571891,3584528711,113926993,338241895,666307205,773529912,1294757372,1396182291,1695183700,1986661051,2177026350,2456956037,2730485921,2820302411,3259730800,3345764771,3516065817,3600352804,4094571909,275423344,430227734,506948616,659060556,883997877,958139571,1322822218,1537002063,1747873779,1955562222,2024104815,2227730452,2361852424,2428436474,2756734187,3204031479,3329325298]:List Int)):=⟨_,rfl⟩
 replace H:(some y308)=some r:=by first | (rw[hy308];with_reducible exact H) | (have H2_:=(Option.bind_some _ _).symm.trans H;rw[hy308];with_reducible exact H2_) | (have H2_:=(Option.bind_some _ _).symm.trans H;with_reducible exact H2_) | with_reducible exact H | (rw[hy308];exact H) | exact H
 have Ny308:=Aside0.mk hy308
 clear hy308
 obtain rfl:=Option.some.inj H
 go_enter Try.func101,Try.ntmps101
 go_wp2_with (first | ((with_reducible refine gate_dst (N:=1) rfl ?_);refine Kd.R_lit (Kd.int .u32) _ 87 ?hg (N:=1) ?hd (xs:=([1116352408,1899447441,3049323471,3921009573,961987163,1508970993,2453635748,2870763221,3624381080,310598401,607225278,1426881987,1925078388,2162078206,2614888103,3248222580,3835390401,4022224774,264347078,604807628,770255983,1249150122,1555081692,1996064986,2554220882,2821834349,2952996808,3210313671,3336571891,3584528711,113926993,338241895,666307205,773529912,1294757372,1396182291,1695183700,1986661051,2177026350,2456956037,2730485921,2820302411,3259730800,3345764771,3516065817,3600352804,4094571909,275423344,430227734,506948616,659060556,883997877,958139571,1322822218,1537002063,1747873779,1955562222,2024104815,2227730452,2361852424,2428436474,2756734187,3204031479,3329325298]:List Int)) (inner:=[.int .u32 1116352408,.int .u32 1899447441,.int .u32 3049323471,.int .u32 3921009573,.int .u32 961987163,.int .u32 1508970993,.int .u32 2453635748,.int .u32 2870763221,.int .u32 3624381080,.int .u32 310598401,.int .u32 607225278,.int .u32 1426881987,.int .u32 1925078388,.int .u32 2162078206,.int .u32 2614888103,.int .u32 3248222580,.int .u32 3835390401,.int .u32 4022224774,.int .u32 264347078,.int .u32 604807628,.int .u32 770255983,.int .u32 1249150122,.int .u32 1555081692,.int .u32 1996064986,.int .u32 2554220882,.int .u32 2821834349,.int .u32 2952996808,.int .u32 3210313671,.int .u32 3336571891,.int .u32 3584528711,.int .u32 113926993,.int .u32 338241895,.int .u32 666307205,.int .u32 773529912,.int .u32 1294757372,.int .u32 1396182291,.int .u32 1695183700,.int .u32 1986661051,.int .u32 2177026350,.int .u32 2456956037,.int .u32 2730485921,.int .u32 2820302411,.int .u32 3259730800,.int .u32 3345764771,.int .u32 3516065817,.int .u32 3600352804,.int .u32 4094571909,.int .u32 275423344,.int .u32 430227734,.int .u32 506948616,.int .u32 659060556,.int .u32 883997877,.int .u32 958139571,.int .u32 1322822218,.int .u32 1537002063,.int .u32 1747873779,.int .u32 1955562222,.int .u32 2024104815,.int .u32 2227730452,.int .u32 2361852424,.int .u32 2428436474,.int .u32 2756734187,.int .u32 3204031479,.int .u32 3329325298]) (ok:=fun _=>True) (okp:=fun _=>True) ?hr ?hp (fun _ hk=>hk) trivial (Below.refl _ _) (Nat.le_refl _) (by simp) ?_;(case hd=>rfl);(case hg=>rfl);(case hr=>first | (go_simp;done) | (go_simp;rfl) | (go_simp;simp only[IntKind.wrap_u32,Int.emod_add_emod,Int.add_emod_emod]));(case hp=>exact (Reps.one (show Kd.M (Kd.int .u32) _ _ _ 1116352408 [.int .u32 1116352408] from rfl) (Reps.one (show Kd.M (Kd.int .u32) _ _ _ 1899447441 [.int .u32 1899447441] from rfl) (Reps.one (show Kd.M (Kd.int .u32) _ _ _ 3049323471 [.int .u32 3049323471] from rfl) (Reps.one (show Kd.M (Kd.int .u32) _ _ _ 3921009573 [.int .u32 3921009573] from rfl) (Reps.one (show Kd.M (Kd.int .u32) _ _ _ 961987163 [.int .u32 961987163] from rfl) (Reps.one (show Kd.M (Kd.int .u32) _ _ _ 1508970993 [.int .u32 1508970993] from rfl) (Reps.one (show Kd.M (Kd.int .u32) _ _ _ 2453635748 [.int .u32 2453635748] from rfl) (Reps.one (show Kd.M (Kd.int .u32) _ _ _ 2870763221 [.int .u32 2870763221] from rfl) (Reps.one (show Kd.M (Kd.int .u32) _ _ _ 3624381080 [.int .u32 3624381080] from rfl) (Reps.one (show Kd.M (Kd.int .u32) _ _ _ 310598401 [.int .u32 310598401] from rfl) (Reps.one (show Kd.M (Kd.int .u32) _ _ _ 607225278 [.int .u32 607225278] from rfl) (Reps.one (show Kd.M (Kd.int .u32) _ _ _ 1426881987 [.int .u32 1426881987] from rfl) (Reps.one (show Kd.M (Kd.int .u32) _ _ _ 1925078388 [.int .u32 1925078388] from rfl) (Reps.one (show Kd.M (Kd.int .u32) _ _ _ 2162078206 [.int .u32 2162078206] from rfl) (Reps.one (show Kd.M (Kd.int .u32) _ _ _ 2614888103 [.int .u32 2614888103] from rfl) (Reps.one (show Kd.M (Kd.int .u32) _ _ _ 3248222580 [.int .u32 3248222580] from rfl) (Reps.one (show Kd.M (Kd.int .u32) _ _ _ 3835390401 [.int .u32 3835390401] from rfl) (Reps.one (show Kd.M (Kd.int .u32) _ _ _ 4022224774 [.int .u32 4022224774] from rfl) (Reps.one (show Kd.M (Kd.int .u32) _ _ _ 264347078 [.int .u32 264347078] from rfl) (Reps.one (show Kd.M (Kd.int .u32) _ _ _ 604807628 [.int .u32 604807628] from rfl) (Reps.one (show Kd.M (Kd.int .u32) _ _ _ 770255983 [.int .u32 770255983] from rfl) (Reps.one (show Kd.M (Kd.int .u32) _ _ _ 1249150122 [.int .u32 1249150122] from rfl) (Reps.one (show Kd.M (Kd.int .u32) _ _ _ 1555081692 [.int .u32 1555081692] from rfl) (Reps.one (show Kd.M (Kd.int .u32) _ _ _ 1996064986 [.int .u32 1996064986] from rfl) (Reps.one (show Kd.M (Kd.int .u32) _ _ _ 2554220882 [.int .u32 2554220882] from rfl) (Reps.one (show Kd.M (Kd.int .u32) _ _ _ 2821834349 [.int .u32 2821834349] from rfl) (Reps.one (show Kd.M (Kd.int .u32) _ _ _ 2952996808 [.int .u32 2952996808] from rfl) (Reps.one (show Kd.M (Kd.int .u32) _ _ _ 3210313671 [.int .u32 3210313671] from rfl) (Reps.one (show Kd.M (Kd.int .u32) _ _ _ 3336571891 [.int .u32 3336571891] from rfl) (Reps.one (show Kd.M (Kd.int .u32) _ _ _ 3584528711 [.int .u32 3584528711] from rfl) (Reps.one (show Kd.M (Kd.int .u32) _ _ _ 113926993 [.int .u32 113926993] from rfl) (Reps.one (show Kd.M (Kd.int .u32) _ _ _ 338241895 [.int .u32 338241895] from rfl) (Reps.one (show Kd.M (Kd.int .u32) _ _ _ 666307205 [.int .u32 666307205] from rfl) (Reps.one (show Kd.M (Kd.int .u32) _ _ _ 773529912 [.int .u32 773529912] from rfl) (Reps.one (show Kd.M (Kd.int .u32) _ _ _ 1294757372 [.int .u32 1294757372] from rfl) (Reps.one (show Kd.M (Kd.int .u32) _ _ _ 1396182291 [.int .u32 1396182291] from rfl) (Reps.one (show Kd.M (Kd.int .u32) _ _ _ 1695183700 [.int .u32 1695183700] from rfl) (Reps.one (show Kd.M (Kd.int .u32) _ _ _ 1986661051 [.int .u32 1986661051] from rfl) (Reps.one (show Kd.M (Kd.int .u32) _ _ _ 2177026350 [.int .u32 2177026350] from rfl) (Reps.one (show Kd.M (Kd.int .u32) _ _ _ 2456956037 [.int .u32 2456956037] from rfl) (Reps.one (show Kd.M (Kd.int .u32) _ _ _ 2730485921 [.int .u32 2730485921] from rfl) (Reps.one (show Kd.M (Kd.int .u32) _ _ _ 2820302411 [.int .u32 2820302411] from rfl) (Reps.one (show Kd.M (Kd.int .u32) _ _ _ 3259730800 [.int .u32 3259730800] from rfl) (Reps.one (show Kd.M (Kd.int .u32) _ _ _ 3345764771 [.int .u32 3345764771] from rfl) (Reps.one (show Kd.M (Kd.int .u32) _ _ _ 3516065817 [.int .u32 3516065817] from rfl) (Reps.one (show Kd.M (Kd.int .u32) _ _ _ 3600352804 [.int .u32 3600352804] from rfl) (Reps.one (show Kd.M (Kd.int .u32) _ _ _ 4094571909 [.int .u32 4094571909] from rfl) (Reps.one (show Kd.M (Kd.int .u32) _ _ _ 275423344 [.int .u32 275423344] from rfl) (Reps.one (show Kd.M (Kd.int .u32) _ _ _ 430227734 [.int .u32 430227734] from rfl) (Reps.one (show Kd.M (Kd.int .u32) _ _ _ 506948616 [.int .u32 506948616] from rfl) (Reps.one (show Kd.M (Kd.int .u32) _ _ _ 659060556 [.int .u32 659060556] from rfl) (Reps.one (show Kd.M (Kd.int .u32) _ _ _ 883997877 [.int .u32 883997877] from rfl) (Reps.one (show Kd.M (Kd.int .u32) _ _ _ 958139571 [.int .u32 958139571] from rfl) (Reps.one (show Kd.M (Kd.int .u32) _ _ _ 1322822218 [.int .u32 1322822218] from rfl) (Reps.one (show Kd.M (Kd.int .u32) _ _ _ 1537002063 [.int .u32 1537002063] from rfl) (Reps.one (show Kd.M (Kd.int .u32) _ _ _ 1747873779 [.int .u32 1747873779] from rfl) (Reps.one (show Kd.M (Kd.int .u32) _ _ _ 1955562222 [.int .u32 1955562222] from rfl) (Reps.one (show Kd.M (Kd.int .u32) _ _ _ 2024104815 [.int .u32 2024104815] from rfl) (Reps.one (show Kd.M (Kd.int .u32) _ _ _ 2227730452 [.int .u32 2227730452] from rfl) (Reps.one (show Kd.M (Kd.int .u32) _ _ _ 2361852424 [.int .u32 2361852424] from rfl) (Reps.one (show Kd.M (Kd.int .u32) _ _ _ 2428436474 [.int .u32 2428436474] from rfl) (Reps.one (show Kd.M (Kd.int .u32) _ _ _ 2756734187 [.int .u32 2756734187] from rfl) (Reps.one (show Kd.M (Kd.int .u32) _ _ _ 3204031479 [.int .u32 3204031479] from rfl) (Reps.one (show Kd.M (Kd.int .u32) _ _ _ 3329325298 [.int .u32 3329325298] from rfl) (Reps.none _ _))))))))))))))))))))))))))))))))))))))))))))))))))))))))))))))))));intro v309 w1 ho2 hb hg_ hnew_;clear hg_ hnew_;(first | rw[← Ny308.out] at ho2 | (simp only[Int.reduceToNat] at ho2;rw[← Ny308.out] at ho2));have n0_:=Aside0.mk (Kd.R_lower ho2 (below_size (by repeat (first | (with_reducible first | exact HB.out | apply below_alloc | apply pw_below_drewN | apply below_drew1) | exact HB.out))));have n1_:=Aside0.mk (below_step (by repeat (first | (with_reducible first | exact HB.out | apply below_alloc | apply pw_below_drewN | apply below_drew1) | exact HB.out)) hb);clear HB;have HO310:=n0_;have HB:=n1_;clear n0_ n1_;clear hb ho2))
 go_ret
 exact ⟨_,by first | rfl | (simp[errW_none,errW_some] <;> rfl) | (simp[*,errW_none,errW_some] <;> rfl),by (with_reducible repeat (first | apply Kd.R_alloc | apply Kd.R_drewN | apply Kd.R_drew));exact HO310.out,by repeat (first | (with_reducible first | exact HB.out | apply below_alloc | apply pw_below_drewN | apply below_drew1) | exact HB.out)⟩
end Go.Proofs.Ytbajioiiaamokaa.QB
