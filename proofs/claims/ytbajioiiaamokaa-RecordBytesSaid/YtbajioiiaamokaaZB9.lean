/- QBx7, pruned (slim.py). -/
import Derived.Test.YtbajioiiaamokaaZB4
import Derived.Test.YtbajioiiaamokaaZB7
import Derived.Test.YtbajioiiaamokaaZB8
namespace Go.Proofs.Ytbajioiiaamokaa.Own
end Go.Proofs.Ytbajioiiaamokaa.Own
namespace Go.Proofs.Ytbajioiiaamokaa.QB
open Go.RowKit Go.Proofs.Ytbajioiiaamokaa.Own Go.Proofs.YtbajioiiaamokaaW.PrintWords Go.Proofs.YtbajioiiaamokaaW.PrintLast Go.Proofs.YtbajioiiaamokaaW.PrintMore
attribute [local go_sem] max2_int min2_int max_two min_two max_three min_three max_four min_four
set_option linter.unusedVariables false
set_option linter.unusedSimpArgs false
mutual
def nepentheref02_Compress.l0:Nat→List Int→List Int→List Int→List Int→Int→Option (List Int)
 |0,_,_,_,_,_=>none
 |k+1,x0,x5,x6,x7,x8=>if x8<64 then (if 7<(x7.length:Int) then (if 4<(x7.length:Int) then ((nepentheref02_rotr.f k (rd x7 4) 6).bind fun t325=>((nepentheref02_rotr.f k (rd x7 4) 11).bind fun t327=>((nepentheref02_rotr.f k (rd x7 4) 25).bind fun t329=>(if 5<(x7.length:Int) then (if 6<(x7.length:Int) then (if 0≤x8 then (if x8<(x6.length:Int) then (if x8<(x5.length:Int) then (if 0<(x7.length:Int) then ((nepentheref02_rotr.f k (rd x7 0) 2).bind fun t337=>((nepentheref02_rotr.f k (rd x7 0) 13).bind fun t339=>((nepentheref02_rotr.f k (rd x7 0) 22).bind fun t341=>(if 1<(x7.length:Int) then (if 2<(x7.length:Int) then (if 3<(x7.length:Int) then (nepentheref02_Compress.l0 k x0 x5 x6 (([((((((((((rd x7 7)+(Go.bits .xor .u32 (Go.bits .xor .u32 t325 t327) t329)) % 4294967296)+(Go.bits .xor .u32 (Go.bits .and .u32 (rd x7 4) (rd x7 5)) (Go.bits .and .u32 ((4294967295 - (rd x7 4)) % 4294967296) (rd x7 6)))) % 4294967296)+(rd x6 x8)) % 4294967296)+(rd x5 x8)) % 4294967296)+(((Go.bits .xor .u32 (Go.bits .xor .u32 t337 t339) t341)+(Go.bits .xor .u32 (Go.bits .xor .u32 (Go.bits .and .u32 (rd x7 0) (rd x7 1)) (Go.bits .and .u32 (rd x7 0) (rd x7 2))) (Go.bits .and .u32 (rd x7 1) (rd x7 2)))) % 4294967296)) % 4294967296,rd x7 0,rd x7 1,rd x7 2,((rd x7 3)+(((((((((rd x7 7)+(Go.bits .xor .u32 (Go.bits .xor .u32 t325 t327) t329)) % 4294967296)+(Go.bits .xor .u32 (Go.bits .and .u32 (rd x7 4) (rd x7 5)) (Go.bits .and .u32 ((4294967295 - (rd x7 4)) % 4294967296) (rd x7 6)))) % 4294967296)+(rd x6 x8)) % 4294967296)+(rd x5 x8)) % 4294967296)) % 4294967296,rd x7 4,rd x7 5,rd x7 6]:List Int)) (wrap64 (x8+1))) else (none)) else (none)) else (none))))) else (none)) else (none)) else (none)) else (none)) else (none)) else (none))))) else (none)) else (none)) else (nepentheref02_Compress.l1 k x0 x7 (([]:List Int)) 0)
def nepentheref02_Compress.l1:Nat→List Int→List Int→List Int→Int→Option (List Int)
 |0,_,_,_,_=>none
 |k+1,x0,x7,x11,x12=>if x12<8 then (if 0≤x12 then (if x12<(x7.length:Int) then (if x12<(x0.length:Int) then (if x11.length<35184372088832 then (nepentheref02_Compress.l1 k x0 x7 (x11 ++ [((rd x7 x12)+(rd x0 x12)) % 4294967296]) (wrap64 (x12+1))) else (none)) else (none)) else (none)) else (none)) else (some x11)
end
def nepentheref02_Compress.f (k:Nat) (l0:List Int) (l1:List Int):Option (List Int):=(nepentheref02_words.f k l1).bind fun t311=>((nepentheref02_Constants.f).bind fun t314=>((some (([]:List Int):List Int)).bind fun y317=>(if y317.length+l0.length<35184372088832 then (nepentheref02_Compress.l0 k l0 t311 t314 (y317++l0) 0) else (none))))
def nepentheref02_Compress.T7:Bool × List (List Nat × List Nat):=(true,[([],[]),([0],[0]),([1],[1]),([],[]),([3],[3]),([4],[4]),([5],[5]),([],[]),([7],[7]),([8],[8]),([9,6],[9]),([6,10],[6,10]),([],[]),([12],[12]),([13],[13]),([14,10],[14]),([11,15],[11,15]),([2,16],[2,16]),([],[]),([18],[18]),([19],[19]),([],[]),([21],[21]),([22],[22]),([20,23],[20,23]),([],[]),([25],[25]),([26],[26]),([27],[27]),([],[]),([29],[29]),([30],[30]),([28,31],[28,31]),([24,32],[24,32]),([17,33],[17,33]),([],[]),([],[]),([35,36],[35,36]),([37],[37]),([34,38],[34,38]),([],[]),([],[]),([40,41],[40,41]),([42],[42]),([39,43],[39,43]),([44,15,0,1,2,3,4,5,6,7,8,9,10,11,12,13,14,15,16,17,18,19,20,21,22,23,24,25,26,27,28,29,30,31,32,33,34,35,36,37,38,39,40,41,42,43,44],[44])])
def nepentheref02_Compress.B7:List Nat:=[0,1,3,0,8,24,56,0,128,384,1016,2040,0,4096,12288,30712,65528,131071,0,262144,786432,0,2097152,6291456,16515072,0,33554432,100663296,234881024,0,536870912,1610612736,4261412864,8589672448,17179869183,0,0,103079215104,240518168576,549755813887,0,0,3298534883328,7696581394432,17592186044415,35184372088831]
theorem nepentheref02_Compress.tab7:rtab .any (opsOf Try.f92 7)=nepentheref02_Compress.T7:=by kernel_rfl
theorem nepentheref02_Compress.bits7:waitsOk nepentheref02_Compress.T7.2 nepentheref02_Compress.B7=true:=by kernel_rfl
def nepentheref02_Compress.T8:Bool × List (List Nat × List Nat):=(true,[([],[]),([0],[0]),([1],[1]),([2],[2]),([],[]),([4],[4]),([5],[5]),([6,3],[6]),([3,7],[3,7]),([],[]),([9],[9]),([10],[10]),([11,7],[11]),([8,12],[8,12]),([],[]),([14],[14]),([15],[15]),([],[]),([17],[17]),([18],[18]),([16,19],[16,19]),([],[]),([21],[21]),([22],[22]),([],[]),([24],[24]),([25],[25]),([23,26],[23,26]),([20,27],[20,27]),([],[]),([29],[29]),([30],[30]),([],[]),([32],[32]),([33],[33]),([31,34],[31,34]),([28,35],[28,35]),([13,36],[13,36]),([37,12,0,1,2,3,4,5,6,7,8,9,10,11,12,13,14,15,16,17,18,19,20,21,22,23,24,25,26,27,28,29,30,31,32,33,34,35,36,37],[37])])
def nepentheref02_Compress.B8:List Nat:=[0,1,3,7,0,16,48,127,255,0,512,1536,3839,8191,0,16384,49152,0,131072,393216,1032192,0,2097152,6291456,0,16777216,50331648,132120576,268419072,0,536870912,1610612736,0,4294967296,12884901888,33822867456,68719460352,137438953471,274877906943]
theorem nepentheref02_Compress.tab8:rtab .any (opsOf Try.f92 8)=nepentheref02_Compress.T8:=by kernel_rfl
theorem nepentheref02_Compress.bits8:waitsOk nepentheref02_Compress.T8.2 nepentheref02_Compress.B8=true:=by kernel_rfl
def nepentheref02_Compress.T9:Bool × List (List Nat × List Nat):=(true,[([],[]),([],[]),([0,1],[0,1]),([],[]),([3],[3]),([4],[4]),([],[]),([6],[6]),([7],[7]),([],[]),([9],[9]),([10],[10]),([],[]),([12],[12]),([13],[13]),([],[]),([14,15],[14,15]),([],[]),([17],[17]),([18],[18]),([],[]),([20],[20]),([21],[21]),([],[]),([23],[23]),([24],[24]),([2,5,8,11,16,19,22,25],[2,5,8,11,16,19,22,25]),([26,0,1,2,3,4,5,6,7,8,9,10,11,12,13,14,15,16,17,18,19,20,21,22,23,24,25,26],[3,6,9,12,17,20,23,26])])
def nepentheref02_Compress.B9:List Nat:=[0,0,3,0,8,24,0,64,192,0,512,1536,0,4096,12288,0,61440,0,131072,393216,0,1048576,3145728,0,8388608,25165824,67108863,134217727]
theorem nepentheref02_Compress.tab9:rtab .any (opsOf Try.f92 9)=nepentheref02_Compress.T9:=by kernel_rfl
theorem nepentheref02_Compress.bits9:waitsOk nepentheref02_Compress.T9.2 nepentheref02_Compress.B9=true:=by kernel_rfl
def nepentheref02_Compress.T14:Bool × List (List Nat × List Nat):=(true,[([],[]),([],[]),([],[]),([1,2],[1,2]),([3],[3]),([],[]),([],[]),([5,6],[5,6]),([7],[7]),([4,8],[4,8]),([9],[9]),([0,10],[0,10]),([11,11,0,1,2,3,4,5,6,7,8,9,10,11],[0,11])])
def nepentheref02_Compress.B14:List Nat:=[0,0,0,6,14,0,0,96,224,510,1022,2047,4095]
theorem nepentheref02_Compress.tab14:rtab .any (opsOf Try.f92 14)=nepentheref02_Compress.T14:=by kernel_rfl
theorem nepentheref02_Compress.bits14:waitsOk nepentheref02_Compress.T14.2 nepentheref02_Compress.B14=true:=by kernel_rfl
set_option maxHeartbeats 8000000 in
set_option maxRecDepth 100000 in
theorem nepentheref02_Compress.calls (k:Nat) (A0:Option Addr) (c0:Nat) (l0:List Int) (A1:Option Addr) (c1:Nat) (l1:List Int) (r:List Int) (w:World) (hr0:Kd.C (Kd.int .u32) w A0 l0.length l0) (hc0:l0.length≤c0) (hr1:Kd.C (Kd.int .u8) w A1 l1.length l1) (hc1:l1.length≤c1) (h:nepentheref02_Compress.f k l0 l1=some r) :
  Calls Try.prog 92 #[.slice A0 l0.length c0,.slice A1 l1.length c1] w fun e w'=>∃ v0_:Value,e=.returned (v0_)∧Kd.R (Kd.int .u32) 87 w' w.heap.size (fun _=>True) v0_ r∧Below w.heap.size w w':=by
 have HR0:=Aside0.mk hr0
 have HC0:=Aside0.mk hc0
 clear hr0 hc0
 have HR1:=Aside0.mk hr1
 have HC1:=Aside0.mk hc1
 clear hr1 hc1
 have HB:=Aside0.mk (Below.refl w.heap.size w)
 have H:((nepentheref02_words.f k l1).bind fun t311=>((nepentheref02_Constants.f).bind fun t314=>((some (([]:List Int):List Int)).bind fun y317=>(if y317.length+l0.length<35184372088832 then (nepentheref02_Compress.l0 k l0 t311 t314 (y317++l0) 0) else (none)))))=some r:=h
 clear h
 replace H:=Option.bind_eq_some_iff.mp H
 obtain ⟨t311,A30,H⟩:=H
 replace H:((nepentheref02_Constants.f).bind fun t314=>((some (([]:List Int):List Int)).bind fun y317=>(if y317.length+l0.length<35184372088832 then (nepentheref02_Compress.l0 k l0 t311 t314 (y317++l0) 0) else (none))))=some r:=H
 have A3:=Aside0.mk A30
 clear A30
 replace H:=Option.bind_eq_some_iff.mp H
 obtain ⟨t314,A40,H⟩:=H
 replace H:((some (([]:List Int):List Int)).bind fun y317=>(if y317.length+l0.length<35184372088832 then (nepentheref02_Compress.l0 k l0 t311 t314 (y317++l0) 0) else (none)))=some r:=H
 have A4:=Aside0.mk A40
 clear A40
 obtain ⟨y317,hy317⟩:∃ y_:List Int,y_=(([]:List Int)):=⟨_,rfl⟩
 replace H:(if y317.length+l0.length<35184372088832 then (nepentheref02_Compress.l0 k l0 t311 t314 (y317++l0) 0) else (none))=some r:=by first | (rw[hy317];with_reducible exact H) | (have H2_:=(Option.bind_some _ _).symm.trans H;rw[hy317];with_reducible exact H2_) | (have H2_:=(Option.bind_some _ _).symm.trans H;with_reducible exact H2_) | with_reducible exact H | (rw[hy317];exact H) | exact H
 have Ny317:=Aside0.mk hy317
 clear hy317
 by_cases c5:y317.length+l0.length<35184372088832
 ·rw[if_pos c5] at H
  have LMc5:=Aside0.mk c5
  clear c5
  obtain ⟨y320,hy320⟩:∃ y_:List Int,y_=(y317++l0):=⟨_,rfl⟩
  replace H:(nepentheref02_Compress.l0 k l0 t311 t314 y320 0)=some r:=by first | (rw[hy320];with_reducible exact H) | (have H2_:=(Option.bind_some _ _).symm.trans H;rw[hy320];with_reducible exact H2_) | (have H2_:=(Option.bind_some _ _).symm.trans H;with_reducible exact H2_) | with_reducible exact H | (rw[hy320];exact H) | exact H
  have Ny320:=Aside0.mk hy320
  clear hy320
  have H':=Aside0.mk H
  clear H
  go_enter Try.func92,Try.ntmps92
  go_wp2_with (first | ((with_reducible refine gate_callee (f:=100) rfl ?_);refine goesL_ (some 14) rfl rfl Try.func100 (by kernel_rfl) rfl #[.slice A1 l1.length c1] rfl (by (try simp only[List.map_toArray,List.map_cons,List.map_nil]);first | done | rfl | (simp only[List.length_drop,List.length_take];rfl)) ?_;(with_reducible refine (nepentheref02_words.calls k _ _ l1 t311 _ ?side1 ?side2 A3.out).mono ?_);(case side1=>repeat (first | exact HR1.out | (with_reducible refine Kd.C_alloc ?_ _) | (with_reducible refine Kd.C_drewN ?_ _) | (with_reducible refine Kd.C_drew ?_)));(case side2=>exact HC1.out);rintro e w6 ⟨v312,rfl,ho0,hb⟩;refine ⟨_,rfl,?_⟩;have n0_:=Aside0.mk (Kd.R_lower ho0 (below_size (by repeat (first | (with_reducible first | exact HB.out | apply below_alloc | apply pw_below_drewN | apply below_drew1) | exact HB.out))));have n1_:=Aside0.mk (below_step (by repeat (first | (with_reducible first | exact HB.out | apply below_alloc | apply pw_below_drewN | apply below_drew1) | exact HB.out)) hb);clear HB;have HO313:=n0_;have HB:=n1_;clear n0_ n1_;(try clear hb);(try clear hb2);(try clear hk);(try clear hi);(try clear ho0)) | ((with_reducible refine gate_callee (f:=101) rfl ?_);refine goesL_ (some 15) rfl rfl Try.func101 (by kernel_rfl) rfl #[] rfl (by (try simp only[List.map_toArray,List.map_cons,List.map_nil]);first | done | rfl | (simp only[List.length_drop,List.length_take];rfl)) ?_;(with_reducible refine (nepentheref02_Constants.calls  t314 _ A4.out).mono ?_);rintro e w7 ⟨v315,rfl,ho0,hb⟩;refine ⟨_,rfl,?_⟩;have n0_:=Aside0.mk (Kd.R_elder' (by (with_reducible repeat (first | apply Kd.R_alloc | apply Kd.R_drewN | apply Kd.R_drew));exact HO313.out) (Kd.R_base ho0) hb);have n1_:=Aside0.mk (Kd.R_lower (Kd.R_new' ho0 (Kd.R_lt (by (with_reducible repeat (first | apply Kd.R_alloc | apply Kd.R_drewN | apply Kd.R_drew));exact HO313.out))) (below_size (by repeat (first | (with_reducible first | exact HB.out | apply below_alloc | apply pw_below_drewN | apply below_drew1) | exact HB.out))));have n2_:=Aside0.mk (below_step (by repeat (first | (with_reducible first | exact HB.out | apply below_alloc | apply pw_below_drewN | apply below_drew1) | exact HB.out)) hb);clear HO313;clear HB;have HO313:=n0_;have HO316:=n1_;have HB:=n2_;clear n0_ n1_ n2_;(try clear hb);(try clear hb2);(try clear hk);(try clear hi);(try clear ho0)) | ((with_reducible refine gate_dst (N:=16) rfl ?_);refine Kd.R_lit (Kd.int .u32) _ 87 ?hg (N:=16) ?hd (xs:=([]:List Int)) (inner:=[]) (ok:=fun _=>True) (okp:=fun _=>True) ?hr ?hp (fun _ hk=>hk) trivial (Below.refl _ _) (Nat.le_refl _) (by simp) ?_;(case hd=>rfl);(case hg=>rfl);(case hr=>first | (go_simp;done) | (go_simp;rfl) | (go_simp;simp only[IntKind.wrap_u32,Int.emod_add_emod,Int.add_emod_emod]));(case hp=>exact (Reps.none _ _));intro v318 w8 ho9 hb hg_ hnew_;clear hg_ hnew_;(first | rw[← Ny317.out] at ho9 | (simp only[Int.reduceToNat] at ho9;rw[← Ny317.out] at ho9));have n0_:=Aside0.mk (Kd.R_elder' (by (with_reducible repeat (first | apply Kd.R_alloc | apply Kd.R_drewN | apply Kd.R_drew));exact HO313.out) (Kd.R_base ho9) hb);have n1_:=Aside0.mk (Kd.R_elder' (by (with_reducible repeat (first | apply Kd.R_alloc | apply Kd.R_drewN | apply Kd.R_drew));exact HO316.out) (Kd.R_base ho9) hb);have n2_:=Aside0.mk (Kd.R_lower (Kd.R_new' (Kd.R_new' ho9 (Kd.R_lt (by (with_reducible repeat (first | apply Kd.R_alloc | apply Kd.R_drewN | apply Kd.R_drew));exact HO313.out))) (Kd.R_lt (by (with_reducible repeat (first | apply Kd.R_alloc | apply Kd.R_drewN | apply Kd.R_drew));exact HO316.out))) (below_size (by repeat (first | (with_reducible first | exact HB.out | apply below_alloc | apply pw_below_drewN | apply below_drew1) | exact HB.out))));have n3_:=Aside0.mk (below_step (by repeat (first | (with_reducible first | exact HB.out | apply below_alloc | apply pw_below_drewN | apply below_drew1) | exact HB.out)) hb);clear HO313;clear HO316;clear HB;have HO313:=n0_;have HO316:=n1_;have HO319:=n2_;have HB:=n3_;clear n0_ n1_ n2_ n3_;clear hb ho9) | ((with_reducible refine gate_builtin (b:=.append) (xs:=#[.tmp 16,.tmp 17]) rfl ?_);at_builtin;refine Kd.R_append_rows (Kd.int .u32) (w0:=w) w.heap.size rfl (.tmp 16) (.tmp 17) 134 87 (.int .u32 0) 4 rfl Try.underlying134 info87 rfl (by decide) (by omega) v318 y317 l0 _ _ _ (fun k_=>some k_≠(v312:Value).ownBlock∧some k_≠(v315:Value).ownBlock) (fun _=>False) rfl rfl ?aO ?aR (fun _ _ h=>h) (fun _ h=>h.elim) ?aF ?aB ?aS ?aL ?_;(case aR=>repeat (first | exact (Kd.C_below HR0.out HB.out) | (with_reducible refine Kd.C_alloc ?_ _) | (with_reducible refine Kd.C_drewN ?_ _) | (with_reducible refine Kd.C_drew ?_)));(case aB=>exact (by repeat (first | (with_reducible first | exact HB.out | apply below_alloc | apply pw_below_drewN | apply below_drew1) | exact HB.out)));(case aF=>exact (fun k_ hk=>⟨Kd.fresh' (Kd.R_lt (by (with_reducible repeat (first | apply Kd.R_alloc | apply Kd.R_drewN | apply Kd.R_drew));exact HO313.out)) k_ hk,Kd.fresh' (Kd.R_lt (by (with_reducible repeat (first | apply Kd.R_alloc | apply Kd.R_drewN | apply Kd.R_drew));exact HO316.out)) k_ hk⟩));(case aO=>exact (by (with_reducible repeat (first | apply Kd.R_alloc | apply Kd.R_drewN | apply Kd.R_drew));exact Kd.R_mono HO319.out (fun _ hk=>⟨hk.1.2,hk.2⟩)));(case aS=>exact (below_size (by repeat (first | (with_reducible first | exact HB.out | apply below_alloc | apply pw_below_drewN | apply below_drew1) | exact HB.out))));(case aL=>have:=LMc5.out;omega);intro v321 w10 ho hb hg hat;rw[← Ny320.out] at ho;have n0_:=Aside0.mk (Kd.R_after (ok:=(fun k_=>some k_≠(v315:Value).ownBlock)) (by (with_reducible repeat (first | apply Kd.R_alloc | apply Kd.R_drewN | apply Kd.R_drew));exact Kd.R_mono HO313.out (fun _ hk=>⟨hk.1.2,hk.2⟩)) hg hat);have n1_:=Aside0.mk (Kd.R_after (ok:=(fun k_=>some k_≠(v312:Value).ownBlock)) (by (with_reducible repeat (first | apply Kd.R_alloc | apply Kd.R_drewN | apply Kd.R_drew));exact Kd.R_mono HO316.out (fun _ hk=>⟨hk.1.2,hk.2⟩)) hg hat);have n2_:=Aside0.mk (hb);have n3_:=Aside0.mk (ho);clear HO313;clear HO316;clear HB;clear HO319;have HO313:=n0_;have HO316:=n1_;have HB:=n2_;have HO322:=n3_;clear n0_ n1_ n2_ n3_;clear ho hb hg hat))
  go_loopg [7,8] k (fun kq v7 v8 w'=>∃ (x7_1:List Int) (x8_1:Int),v8=.int .i64 x8_1∧Aside0 (nepentheref02_Compress.l0 kq l0 t311 t314 x7_1 x8_1=some r)∧Aside0 (kq≤k)∧Aside0 (Kd.R (Kd.int .u32) 87 w' w.heap.size (fun k_=>some k_≠(v315:Value).ownBlock∧some k_≠(v7:Value).ownBlock) v312 t311)∧Aside0 (Kd.R (Kd.int .u32) 87 w' w.heap.size (fun k_=>some k_≠(v312:Value).ownBlock∧some k_≠(v7:Value).ownBlock) v315 t314)∧Aside0 (Kd.R (Kd.int .u32) 87 w' w.heap.size (fun k_=>some k_≠(v312:Value).ownBlock∧some k_≠(v315:Value).ownBlock) v7 x7_1)∧Aside0 (Below w.heap.size w w'))
  case atStart=>exact ⟨(y320),(0),(by first | rfl | (simp;done) | (simp[*];done)),H',⟨Nat.le_refl _⟩,⟨by (with_reducible repeat (first | apply Kd.R_alloc | apply Kd.R_drewN | apply Kd.R_drew));exact HO313.out⟩,⟨by (with_reducible repeat (first | apply Kd.R_alloc | apply Kd.R_drewN | apply Kd.R_drew));exact HO316.out⟩,⟨by (with_reducible repeat (first | apply Kd.R_alloc | apply Kd.R_drewN | apply Kd.R_drew));exact HO322.out⟩,⟨by repeat (first | (with_reducible first | exact HB.out | apply below_alloc | apply pw_below_drewN | apply below_drew1) | exact HB.out)⟩⟩
  case round=>
   clear H'
   try clear c1
   try clear p2
   try clear c5
   try clear c9
   try clear c10
   obtain ⟨x7_1,x8_1,rfl,HA,HK1,HO_5,HO_6,HO_7,HB⟩:=hrel
   cases gk with
   |zero=>exact absurd HA.out (by simp[nepentheref02_Compress.l0])
   |succ k1=>
    have H:=HA.out
    clear HA
    simp only[nepentheref02_Compress.l0] at H
    by_cases c11:x8_1<64
    ·rw[if_pos c11] at H
     have c11b0:decide (x8_1<64)=true:=decide_eq_true c11
     clear c11
     by_cases c12:7<(x7_1.length:Int)
     ·rw[if_pos c12] at H
      have c12b0:decide (7<(x7_1.length:Int))=true:=decide_eq_true c12
      have c12b1:decide (7<x7_1.length)=true:=decide_eq_true (by omega)
      clear c12
      by_cases c13:4<(x7_1.length:Int)
      ·rw[if_pos c13] at H
       have c13b0:decide (4<(x7_1.length:Int))=true:=decide_eq_true c13
       have c13b1:decide (4<x7_1.length)=true:=decide_eq_true (by omega)
       clear c13
       replace H:=Option.bind_eq_some_iff.mp H
       obtain ⟨t325,A140,H⟩:=H
       replace H:((nepentheref02_rotr.f k1 (rd x7_1 4) 11).bind fun t327=>((nepentheref02_rotr.f k1 (rd x7_1 4) 25).bind fun t329=>(if 5<(x7_1.length:Int) then (if 6<(x7_1.length:Int) then (if 0≤x8_1 then (if x8_1<(t314.length:Int) then (if x8_1<(t311.length:Int) then (if 0<(x7_1.length:Int) then ((nepentheref02_rotr.f k1 (rd x7_1 0) 2).bind fun t337=>((nepentheref02_rotr.f k1 (rd x7_1 0) 13).bind fun t339=>((nepentheref02_rotr.f k1 (rd x7_1 0) 22).bind fun t341=>(if 1<(x7_1.length:Int) then (if 2<(x7_1.length:Int) then (if 3<(x7_1.length:Int) then (nepentheref02_Compress.l0 k1 l0 t311 t314 (([((((((((((rd x7_1 7)+(Go.bits .xor .u32 (Go.bits .xor .u32 t325 t327) t329)) % 4294967296)+(Go.bits .xor .u32 (Go.bits .and .u32 (rd x7_1 4) (rd x7_1 5)) (Go.bits .and .u32 ((4294967295 - (rd x7_1 4)) % 4294967296) (rd x7_1 6)))) % 4294967296)+(rd t314 x8_1)) % 4294967296)+(rd t311 x8_1)) % 4294967296)+(((Go.bits .xor .u32 (Go.bits .xor .u32 t337 t339) t341)+(Go.bits .xor .u32 (Go.bits .xor .u32 (Go.bits .and .u32 (rd x7_1 0) (rd x7_1 1)) (Go.bits .and .u32 (rd x7_1 0) (rd x7_1 2))) (Go.bits .and .u32 (rd x7_1 1) (rd x7_1 2)))) % 4294967296)) % 4294967296,rd x7_1 0,rd x7_1 1,rd x7_1 2,((rd x7_1 3)+(((((((((rd x7_1 7)+(Go.bits .xor .u32 (Go.bits .xor .u32 t325 t327) t329)) % 4294967296)+(Go.bits .xor .u32 (Go.bits .and .u32 (rd x7_1 4) (rd x7_1 5)) (Go.bits .and .u32 ((4294967295 - (rd x7_1 4)) % 4294967296) (rd x7_1 6)))) % 4294967296)+(rd t314 x8_1)) % 4294967296)+(rd t311 x8_1)) % 4294967296)) % 4294967296,rd x7_1 4,rd x7_1 5,rd x7_1 6]:List Int)) (wrap64 (x8_1+1))) else (none)) else (none)) else (none))))) else (none)) else (none)) else (none)) else (none)) else (none)) else (none))))=some r:=H
       have A14:=Aside0.mk A140
       clear A140
       replace H:=Option.bind_eq_some_iff.mp H
       obtain ⟨t327,A150,H⟩:=H
       replace H:((nepentheref02_rotr.f k1 (rd x7_1 4) 25).bind fun t329=>(if 5<(x7_1.length:Int) then (if 6<(x7_1.length:Int) then (if 0≤x8_1 then (if x8_1<(t314.length:Int) then (if x8_1<(t311.length:Int) then (if 0<(x7_1.length:Int) then ((nepentheref02_rotr.f k1 (rd x7_1 0) 2).bind fun t337=>((nepentheref02_rotr.f k1 (rd x7_1 0) 13).bind fun t339=>((nepentheref02_rotr.f k1 (rd x7_1 0) 22).bind fun t341=>(if 1<(x7_1.length:Int) then (if 2<(x7_1.length:Int) then (if 3<(x7_1.length:Int) then (nepentheref02_Compress.l0 k1 l0 t311 t314 (([((((((((((rd x7_1 7)+(Go.bits .xor .u32 (Go.bits .xor .u32 t325 t327) t329)) % 4294967296)+(Go.bits .xor .u32 (Go.bits .and .u32 (rd x7_1 4) (rd x7_1 5)) (Go.bits .and .u32 ((4294967295 - (rd x7_1 4)) % 4294967296) (rd x7_1 6)))) % 4294967296)+(rd t314 x8_1)) % 4294967296)+(rd t311 x8_1)) % 4294967296)+(((Go.bits .xor .u32 (Go.bits .xor .u32 t337 t339) t341)+(Go.bits .xor .u32 (Go.bits .xor .u32 (Go.bits .and .u32 (rd x7_1 0) (rd x7_1 1)) (Go.bits .and .u32 (rd x7_1 0) (rd x7_1 2))) (Go.bits .and .u32 (rd x7_1 1) (rd x7_1 2)))) % 4294967296)) % 4294967296,rd x7_1 0,rd x7_1 1,rd x7_1 2,((rd x7_1 3)+(((((((((rd x7_1 7)+(Go.bits .xor .u32 (Go.bits .xor .u32 t325 t327) t329)) % 4294967296)+(Go.bits .xor .u32 (Go.bits .and .u32 (rd x7_1 4) (rd x7_1 5)) (Go.bits .and .u32 ((4294967295 - (rd x7_1 4)) % 4294967296) (rd x7_1 6)))) % 4294967296)+(rd t314 x8_1)) % 4294967296)+(rd t311 x8_1)) % 4294967296)) % 4294967296,rd x7_1 4,rd x7_1 5,rd x7_1 6]:List Int)) (wrap64 (x8_1+1))) else (none)) else (none)) else (none))))) else (none)) else (none)) else (none)) else (none)) else (none)) else (none)))=some r:=H
       have A15:=Aside0.mk A150
       clear A150
       replace H:=Option.bind_eq_some_iff.mp H
       obtain ⟨t329,A160,H⟩:=H
       replace H:(if 5<(x7_1.length:Int) then (if 6<(x7_1.length:Int) then (if 0≤x8_1 then (if x8_1<(t314.length:Int) then (if x8_1<(t311.length:Int) then (if 0<(x7_1.length:Int) then ((nepentheref02_rotr.f k1 (rd x7_1 0) 2).bind fun t337=>((nepentheref02_rotr.f k1 (rd x7_1 0) 13).bind fun t339=>((nepentheref02_rotr.f k1 (rd x7_1 0) 22).bind fun t341=>(if 1<(x7_1.length:Int) then (if 2<(x7_1.length:Int) then (if 3<(x7_1.length:Int) then (nepentheref02_Compress.l0 k1 l0 t311 t314 (([((((((((((rd x7_1 7)+(Go.bits .xor .u32 (Go.bits .xor .u32 t325 t327) t329)) % 4294967296)+(Go.bits .xor .u32 (Go.bits .and .u32 (rd x7_1 4) (rd x7_1 5)) (Go.bits .and .u32 ((4294967295 - (rd x7_1 4)) % 4294967296) (rd x7_1 6)))) % 4294967296)+(rd t314 x8_1)) % 4294967296)+(rd t311 x8_1)) % 4294967296)+(((Go.bits .xor .u32 (Go.bits .xor .u32 t337 t339) t341)+(Go.bits .xor .u32 (Go.bits .xor .u32 (Go.bits .and .u32 (rd x7_1 0) (rd x7_1 1)) (Go.bits .and .u32 (rd x7_1 0) (rd x7_1 2))) (Go.bits .and .u32 (rd x7_1 1) (rd x7_1 2)))) % 4294967296)) % 4294967296,rd x7_1 0,rd x7_1 1,rd x7_1 2,((rd x7_1 3)+(((((((((rd x7_1 7)+(Go.bits .xor .u32 (Go.bits .xor .u32 t325 t327) t329)) % 4294967296)+(Go.bits .xor .u32 (Go.bits .and .u32 (rd x7_1 4) (rd x7_1 5)) (Go.bits .and .u32 ((4294967295 - (rd x7_1 4)) % 4294967296) (rd x7_1 6)))) % 4294967296)+(rd t314 x8_1)) % 4294967296)+(rd t311 x8_1)) % 4294967296)) % 4294967296,rd x7_1 4,rd x7_1 5,rd x7_1 6]:List Int)) (wrap64 (x8_1+1))) else (none)) else (none)) else (none))))) else (none)) else (none)) else (none)) else (none)) else (none)) else (none))=some r:=H
       have A16:=Aside0.mk A160
       clear A160
       by_cases c17:5<(x7_1.length:Int)
       ·rw[if_pos c17] at H
        have c17b0:decide (5<(x7_1.length:Int))=true:=decide_eq_true c17
        have c17b1:decide (5<x7_1.length)=true:=decide_eq_true (by omega)
        clear c17
        by_cases c18:6<(x7_1.length:Int)
        ·rw[if_pos c18] at H
         have c18b0:decide (6<(x7_1.length:Int))=true:=decide_eq_true c18
         have c18b1:decide (6<x7_1.length)=true:=decide_eq_true (by omega)
         clear c18
         by_cases c19:0≤x8_1
         ·rw[if_pos c19] at H
          have c19b0:decide (0≤x8_1)=true:=decide_eq_true c19
          clear c19
          by_cases c20:x8_1<(t314.length:Int)
          ·rw[if_pos c20] at H
           have c20b0:decide (x8_1<(t314.length:Int))=true:=decide_eq_true c20
           clear c20
           by_cases c21:x8_1<(t311.length:Int)
           ·rw[if_pos c21] at H
            have c21b0:decide (x8_1<(t311.length:Int))=true:=decide_eq_true c21
            clear c21
            by_cases c22:0<(x7_1.length:Int)
            ·rw[if_pos c22] at H
             have c22b0:decide (0<(x7_1.length:Int))=true:=decide_eq_true c22
             have c22b1:decide (0<x7_1.length)=true:=decide_eq_true (by omega)
             clear c22
             replace H:=Option.bind_eq_some_iff.mp H
             obtain ⟨t337,A230,H⟩:=H
             replace H:((nepentheref02_rotr.f k1 (rd x7_1 0) 13).bind fun t339=>((nepentheref02_rotr.f k1 (rd x7_1 0) 22).bind fun t341=>(if 1<(x7_1.length:Int) then (if 2<(x7_1.length:Int) then (if 3<(x7_1.length:Int) then (nepentheref02_Compress.l0 k1 l0 t311 t314 (([((((((((((rd x7_1 7)+(Go.bits .xor .u32 (Go.bits .xor .u32 t325 t327) t329)) % 4294967296)+(Go.bits .xor .u32 (Go.bits .and .u32 (rd x7_1 4) (rd x7_1 5)) (Go.bits .and .u32 ((4294967295 - (rd x7_1 4)) % 4294967296) (rd x7_1 6)))) % 4294967296)+(rd t314 x8_1)) % 4294967296)+(rd t311 x8_1)) % 4294967296)+(((Go.bits .xor .u32 (Go.bits .xor .u32 t337 t339) t341)+(Go.bits .xor .u32 (Go.bits .xor .u32 (Go.bits .and .u32 (rd x7_1 0) (rd x7_1 1)) (Go.bits .and .u32 (rd x7_1 0) (rd x7_1 2))) (Go.bits .and .u32 (rd x7_1 1) (rd x7_1 2)))) % 4294967296)) % 4294967296,rd x7_1 0,rd x7_1 1,rd x7_1 2,((rd x7_1 3)+(((((((((rd x7_1 7)+(Go.bits .xor .u32 (Go.bits .xor .u32 t325 t327) t329)) % 4294967296)+(Go.bits .xor .u32 (Go.bits .and .u32 (rd x7_1 4) (rd x7_1 5)) (Go.bits .and .u32 ((4294967295 - (rd x7_1 4)) % 4294967296) (rd x7_1 6)))) % 4294967296)+(rd t314 x8_1)) % 4294967296)+(rd t311 x8_1)) % 4294967296)) % 4294967296,rd x7_1 4,rd x7_1 5,rd x7_1 6]:List Int)) (wrap64 (x8_1+1))) else (none)) else (none)) else (none))))=some r:=H
             have A23:=Aside0.mk A230
             clear A230
             replace H:=Option.bind_eq_some_iff.mp H
             obtain ⟨t339,A240,H⟩:=H
             replace H:((nepentheref02_rotr.f k1 (rd x7_1 0) 22).bind fun t341=>(if 1<(x7_1.length:Int) then (if 2<(x7_1.length:Int) then (if 3<(x7_1.length:Int) then (nepentheref02_Compress.l0 k1 l0 t311 t314 (([((((((((((rd x7_1 7)+(Go.bits .xor .u32 (Go.bits .xor .u32 t325 t327) t329)) % 4294967296)+(Go.bits .xor .u32 (Go.bits .and .u32 (rd x7_1 4) (rd x7_1 5)) (Go.bits .and .u32 ((4294967295 - (rd x7_1 4)) % 4294967296) (rd x7_1 6)))) % 4294967296)+(rd t314 x8_1)) % 4294967296)+(rd t311 x8_1)) % 4294967296)+(((Go.bits .xor .u32 (Go.bits .xor .u32 t337 t339) t341)+(Go.bits .xor .u32 (Go.bits .xor .u32 (Go.bits .and .u32 (rd x7_1 0) (rd x7_1 1)) (Go.bits .and .u32 (rd x7_1 0) (rd x7_1 2))) (Go.bits .and .u32 (rd x7_1 1) (rd x7_1 2)))) % 4294967296)) % 4294967296,rd x7_1 0,rd x7_1 1,rd x7_1 2,((rd x7_1 3)+(((((((((rd x7_1 7)+(Go.bits .xor .u32 (Go.bits .xor .u32 t325 t327) t329)) % 4294967296)+(Go.bits .xor .u32 (Go.bits .and .u32 (rd x7_1 4) (rd x7_1 5)) (Go.bits .and .u32 ((4294967295 - (rd x7_1 4)) % 4294967296) (rd x7_1 6)))) % 4294967296)+(rd t314 x8_1)) % 4294967296)+(rd t311 x8_1)) % 4294967296)) % 4294967296,rd x7_1 4,rd x7_1 5,rd x7_1 6]:List Int)) (wrap64 (x8_1+1))) else (none)) else (none)) else (none)))=some r:=H
             have A24:=Aside0.mk A240
             clear A240
             replace H:=Option.bind_eq_some_iff.mp H
             obtain ⟨t341,A250,H⟩:=H
             replace H:(if 1<(x7_1.length:Int) then (if 2<(x7_1.length:Int) then (if 3<(x7_1.length:Int) then (nepentheref02_Compress.l0 k1 l0 t311 t314 (([((((((((((rd x7_1 7)+(Go.bits .xor .u32 (Go.bits .xor .u32 t325 t327) t329)) % 4294967296)+(Go.bits .xor .u32 (Go.bits .and .u32 (rd x7_1 4) (rd x7_1 5)) (Go.bits .and .u32 ((4294967295 - (rd x7_1 4)) % 4294967296) (rd x7_1 6)))) % 4294967296)+(rd t314 x8_1)) % 4294967296)+(rd t311 x8_1)) % 4294967296)+(((Go.bits .xor .u32 (Go.bits .xor .u32 t337 t339) t341)+(Go.bits .xor .u32 (Go.bits .xor .u32 (Go.bits .and .u32 (rd x7_1 0) (rd x7_1 1)) (Go.bits .and .u32 (rd x7_1 0) (rd x7_1 2))) (Go.bits .and .u32 (rd x7_1 1) (rd x7_1 2)))) % 4294967296)) % 4294967296,rd x7_1 0,rd x7_1 1,rd x7_1 2,((rd x7_1 3)+(((((((((rd x7_1 7)+(Go.bits .xor .u32 (Go.bits .xor .u32 t325 t327) t329)) % 4294967296)+(Go.bits .xor .u32 (Go.bits .and .u32 (rd x7_1 4) (rd x7_1 5)) (Go.bits .and .u32 ((4294967295 - (rd x7_1 4)) % 4294967296) (rd x7_1 6)))) % 4294967296)+(rd t314 x8_1)) % 4294967296)+(rd t311 x8_1)) % 4294967296)) % 4294967296,rd x7_1 4,rd x7_1 5,rd x7_1 6]:List Int)) (wrap64 (x8_1+1))) else (none)) else (none)) else (none))=some r:=H
             have A25:=Aside0.mk A250
             clear A250
             by_cases c26:1<(x7_1.length:Int)
             ·rw[if_pos c26] at H
              have c26b0:decide (1<(x7_1.length:Int))=true:=decide_eq_true c26
              have c26b1:decide (1<x7_1.length)=true:=decide_eq_true (by omega)
              clear c26
              by_cases c27:2<(x7_1.length:Int)
              ·rw[if_pos c27] at H
               have c27b0:decide (2<(x7_1.length:Int))=true:=decide_eq_true c27
               have c27b1:decide (2<x7_1.length)=true:=decide_eq_true (by omega)
               clear c27
               by_cases c28:3<(x7_1.length:Int)
               ·rw[if_pos c28] at H
                have c28b0:decide (3<(x7_1.length:Int))=true:=decide_eq_true c28
                have c28b1:decide (3<x7_1.length)=true:=decide_eq_true (by omega)
                clear c28
                obtain ⟨y355,hy355⟩:∃ y_:List Int,y_=(([((((((((((rd x7_1 7)+(Go.bits .xor .u32 (Go.bits .xor .u32 t325 t327) t329)) % 4294967296)+(Go.bits .xor .u32 (Go.bits .and .u32 (rd x7_1 4) (rd x7_1 5)) (Go.bits .and .u32 ((4294967295 - (rd x7_1 4)) % 4294967296) (rd x7_1 6)))) % 4294967296)+(rd t314 x8_1)) % 4294967296)+(rd t311 x8_1)) % 4294967296)+(((Go.bits .xor .u32 (Go.bits .xor .u32 t337 t339) t341)+(Go.bits .xor .u32 (Go.bits .xor .u32 (Go.bits .and .u32 (rd x7_1 0) (rd x7_1 1)) (Go.bits .and .u32 (rd x7_1 0) (rd x7_1 2))) (Go.bits .and .u32 (rd x7_1 1) (rd x7_1 2)))) % 4294967296)) % 4294967296,rd x7_1 0,rd x7_1 1,rd x7_1 2,((rd x7_1 3)+(((((((((rd x7_1 7)+(Go.bits .xor .u32 (Go.bits .xor .u32 t325 t327) t329)) % 4294967296)+(Go.bits .xor .u32 (Go.bits .and .u32 (rd x7_1 4) (rd x7_1 5)) (Go.bits .and .u32 ((4294967295 - (rd x7_1 4)) % 4294967296) (rd x7_1 6)))) % 4294967296)+(rd t314 x8_1)) % 4294967296)+(rd t311 x8_1)) % 4294967296)) % 4294967296,rd x7_1 4,rd x7_1 5,rd x7_1 6]:List Int)):=⟨_,rfl⟩
                replace H:(nepentheref02_Compress.l0 k1 l0 t311 t314 y355 (wrap64 (x8_1+1)))=some r:=by first | (rw[hy355];with_reducible exact H) | (have H2_:=(Option.bind_some _ _).symm.trans H;rw[hy355];with_reducible exact H2_) | (have H2_:=(Option.bind_some _ _).symm.trans H;with_reducible exact H2_) | with_reducible exact H | (rw[hy355];exact H) | exact H
                have Ny355:=Aside0.mk hy355
                clear hy355
                have H':=Aside0.mk H
                clear H
                try go_wp2
                have n0_:=Aside0.mk (Kd.R_drew HO_5.out)
                have n1_:=Aside0.mk (Kd.R_drew HO_6.out)
                have n2_:=Aside0.mk (Kd.R_drew HO_7.out)
                have n3_:=Aside0.mk (below_drew1 HB.out)
                clear HO_5
                clear HO_6
                clear HO_7
                clear HB
                have HO_5:=n0_
                have HO_6:=n1_
                have HO_7:=n2_
                have HB:=n3_
                clear n0_ n1_ n2_ n3_
                obtain ⟨Ao30,co30,eo30⟩:=Kd.R_slice HO_7.out
                (first | subst eo30 | (injection eo30 with f1_ f2_ f3_;have f4_:=f1_.symm;have f5_:=f3_.symm;clear f1_ f2_ f3_;subst f4_;subst f5_))
                have p323:0≤(7:Int):=(by omega)
                have q323:7<(x7_1.length:Int):=of_decide_eq_true (by first | (with_reducible assumption) | assumption)
                obtain ⟨ad323,e323,hx323_0⟩:=Kd.at_int (Kd.R_reads' HO_7.out).2.2 7 p323 q323
                cases e323
                (try simp only[show (7:Int).toNat=7 from rfl,Nat.reduceMul,Nat.reduceEqDiff,Go.Addr.add,↓reduceIte] at hx323_0)
                have qi323:(7<x7_1.length)=True:=eq_true (by omega)
                (try rw[show ((7:Int)).toNat=7 from rfl] at hx323_0)
                replace p323:=eq_true p323
                replace q323:=eq_true q323
                have p324:0≤(4:Int):=(by omega)
                have q324:4<(x7_1.length:Int):=of_decide_eq_true (by first | (with_reducible assumption) | assumption)
                obtain ⟨ad324,e324,hx324_0⟩:=Kd.at_int (Kd.R_reads' HO_7.out).2.2 4 p324 q324
                obtain rfl:ad323=ad324:=(by injection e324)
                (try simp only[show (4:Int).toNat=4 from rfl,Nat.reduceMul,Nat.reduceEqDiff,Go.Addr.add,↓reduceIte] at hx324_0)
                have qi324:(4<x7_1.length)=True:=eq_true (by omega)
                (try rw[show ((4:Int)).toNat=4 from rfl] at hx324_0)
                replace p324:=eq_true p324
                replace q324:=eq_true q324
                have p326:0≤(4:Int):=(by omega)
                have q326:4<(x7_1.length:Int):=of_decide_eq_true (by first | (with_reducible assumption) | assumption)
                obtain ⟨ad326,e326,hx326_0⟩:=Kd.at_int (Kd.R_reads' HO_7.out).2.2 4 p326 q326
                obtain rfl:ad323=ad326:=(by injection e326)
                (try simp only[show (4:Int).toNat=4 from rfl,Nat.reduceMul,Nat.reduceEqDiff,Go.Addr.add,↓reduceIte] at hx326_0)
                have qi326:(4<x7_1.length)=True:=eq_true (by omega)
                (try rw[show ((4:Int)).toNat=4 from rfl] at hx326_0)
                replace p326:=eq_true p326
                replace q326:=eq_true q326
                have p328:0≤(4:Int):=(by omega)
                have q328:4<(x7_1.length:Int):=of_decide_eq_true (by first | (with_reducible assumption) | assumption)
                obtain ⟨ad328,e328,hx328_0⟩:=Kd.at_int (Kd.R_reads' HO_7.out).2.2 4 p328 q328
                obtain rfl:ad323=ad328:=(by injection e328)
                (try simp only[show (4:Int).toNat=4 from rfl,Nat.reduceMul,Nat.reduceEqDiff,Go.Addr.add,↓reduceIte] at hx328_0)
                have qi328:(4<x7_1.length)=True:=eq_true (by omega)
                (try rw[show ((4:Int)).toNat=4 from rfl] at hx328_0)
                replace p328:=eq_true p328
                replace q328:=eq_true q328
                have p330:0≤(4:Int):=(by omega)
                have q330:4<(x7_1.length:Int):=of_decide_eq_true (by first | (with_reducible assumption) | assumption)
                obtain ⟨ad330,e330,hx330_0⟩:=Kd.at_int (Kd.R_reads' HO_7.out).2.2 4 p330 q330
                obtain rfl:ad323=ad330:=(by injection e330)
                (try simp only[show (4:Int).toNat=4 from rfl,Nat.reduceMul,Nat.reduceEqDiff,Go.Addr.add,↓reduceIte] at hx330_0)
                have qi330:(4<x7_1.length)=True:=eq_true (by omega)
                (try rw[show ((4:Int)).toNat=4 from rfl] at hx330_0)
                replace p330:=eq_true p330
                replace q330:=eq_true q330
                have p331:0≤(5:Int):=(by omega)
                have q331:5<(x7_1.length:Int):=of_decide_eq_true (by first | (with_reducible assumption) | assumption)
                obtain ⟨ad331,e331,hx331_0⟩:=Kd.at_int (Kd.R_reads' HO_7.out).2.2 5 p331 q331
                obtain rfl:ad323=ad331:=(by injection e331)
                (try simp only[show (5:Int).toNat=5 from rfl,Nat.reduceMul,Nat.reduceEqDiff,Go.Addr.add,↓reduceIte] at hx331_0)
                have qi331:(5<x7_1.length)=True:=eq_true (by omega)
                (try rw[show ((5:Int)).toNat=5 from rfl] at hx331_0)
                replace p331:=eq_true p331
                replace q331:=eq_true q331
                have p332:0≤(4:Int):=(by omega)
                have q332:4<(x7_1.length:Int):=of_decide_eq_true (by first | (with_reducible assumption) | assumption)
                obtain ⟨ad332,e332,hx332_0⟩:=Kd.at_int (Kd.R_reads' HO_7.out).2.2 4 p332 q332
                obtain rfl:ad323=ad332:=(by injection e332)
                (try simp only[show (4:Int).toNat=4 from rfl,Nat.reduceMul,Nat.reduceEqDiff,Go.Addr.add,↓reduceIte] at hx332_0)
                have qi332:(4<x7_1.length)=True:=eq_true (by omega)
                (try rw[show ((4:Int)).toNat=4 from rfl] at hx332_0)
                replace p332:=eq_true p332
                replace q332:=eq_true q332
                have p333:0≤(6:Int):=(by omega)
                have q333:6<(x7_1.length:Int):=of_decide_eq_true (by first | (with_reducible assumption) | assumption)
                obtain ⟨ad333,e333,hx333_0⟩:=Kd.at_int (Kd.R_reads' HO_7.out).2.2 6 p333 q333
                obtain rfl:ad323=ad333:=(by injection e333)
                (try simp only[show (6:Int).toNat=6 from rfl,Nat.reduceMul,Nat.reduceEqDiff,Go.Addr.add,↓reduceIte] at hx333_0)
                have qi333:(6<x7_1.length)=True:=eq_true (by omega)
                (try rw[show ((6:Int)).toNat=6 from rfl] at hx333_0)
                replace p333:=eq_true p333
                replace q333:=eq_true q333
                obtain ⟨Ao31,co31,eo31⟩:=Kd.R_slice HO_6.out
                (first | subst eo31 | (injection eo31 with f1_ f2_ f3_;have f4_:=f1_.symm;have f5_:=f3_.symm;clear f1_ f2_ f3_;subst f4_;subst f5_))
                have p334:0≤(x8_1:Int):=of_decide_eq_true (by first | (with_reducible assumption) | assumption)
                have q334:x8_1<(t314.length:Int):=of_decide_eq_true (by first | (with_reducible assumption) | assumption)
                obtain ⟨ad334,e334,hx334_0⟩:=Kd.at_int (Kd.R_reads' HO_6.out).2.2 x8_1 p334 q334
                cases e334
                replace p334:=eq_true p334
                replace q334:=eq_true q334
                obtain ⟨Ao32,co32,eo32⟩:=Kd.R_slice HO_5.out
                (first | subst eo32 | (injection eo32 with f1_ f2_ f3_;have f4_:=f1_.symm;have f5_:=f3_.symm;clear f1_ f2_ f3_;subst f4_;subst f5_))
                have p335:0≤(x8_1:Int):=of_decide_eq_true (by first | (with_reducible assumption) | assumption)
                have q335:x8_1<(t311.length:Int):=of_decide_eq_true (by first | (with_reducible assumption) | assumption)
                obtain ⟨ad335,e335,hx335_0⟩:=Kd.at_int (Kd.R_reads' HO_5.out).2.2 x8_1 p335 q335
                cases e335
                replace p335:=eq_true p335
                replace q335:=eq_true q335
                refine start_ (n:=46) (S:=fun w'=>w'.cell? ⟨ad323.block,ad323.off+7,none⟩=some (.int .u32 (rd x7_1 7))∧w'.cell? ⟨ad323.block,ad323.off+4,none⟩=some (.int .u32 (rd x7_1 4))∧w'.cell? ⟨ad323.block,ad323.off+4,none⟩=some (.int .u32 (rd x7_1 4))∧w'.cell? ⟨ad323.block,ad323.off+4,none⟩=some (.int .u32 (rd x7_1 4))∧w'.cell? ⟨ad323.block,ad323.off+4,none⟩=some (.int .u32 (rd x7_1 4))∧w'.cell? ⟨ad323.block,ad323.off+5,none⟩=some (.int .u32 (rd x7_1 5))∧w'.cell? ⟨ad323.block,ad323.off+4,none⟩=some (.int .u32 (rd x7_1 4))∧w'.cell? ⟨ad323.block,ad323.off+6,none⟩=some (.int .u32 (rd x7_1 6))∧w'.cell? (ad334.add (x8_1).toNat)=some (.int .u32 (rd t314 x8_1))∧w'.cell? (ad335.add (x8_1).toNat)=some (.int .u32 (rd t311 x8_1))) (ds:=[]) #[false,false,false,false,false,false,false,false,false,false,false,false,false,false,false,false,false,false,false,false,false,false,false,false,false,false,false,false,false,false,false,false,false,false,false,false,false,false,false,false,false,false,false,false,false,false] (by kernel_rfl) rfl rfl ⟨hx323_0,hx324_0,hx326_0,hx328_0,hx330_0,hx331_0,hx332_0,hx333_0,hx334_0,hx335_0⟩ (fun hHeld=>?_);refine with_tabW nepentheref02_Compress.tab7 nepentheref02_Compress.bits7 (fun HT_ HW_=>?_)
                generalize wr.drew=w29 at HO_5 HO_6 HO_7 HB hx323_0 hx324_0 hx326_0 hx328_0 hx330_0 hx331_0 hx332_0 hx333_0 hx334_0 hx335_0 hHeld ⊢
                refine pure_ (i:=0) (N:=some 23) (v:=?_) (a':=?_) #[true,false,false,false,false,false,false,false,false,false,false,false,false,false,false,false,false,false,false,false,false,false,false,false,false,false,false,false,false,false,false,false,false,false,false,false,false,false,false,false,false,false,false,false,false,false] rfl rfl (any_of HT_.out (by kernel_rfl)) (fun _ _ _ h=>h) (Or.inl ⟨by rfl,?_⟩) ?_ ?_
                rotate_left
                ·intro w';go_simp;with_reducible rfl
                rotate_left
                ·simp only[Act.put,sZ0,sZ1,sZ2,i64_w,i32_w];rfl
                refine pure_ (i:=1) (N:=some 24) (v:=?_) (a':=?_) #[true,true,false,false,false,false,false,false,false,false,false,false,false,false,false,false,false,false,false,false,false,false,false,false,false,false,false,false,false,false,false,false,false,false,false,false,false,false,false,false,false,false,false,false,false,false] rfl rfl (any_of HT_.out (by kernel_rfl)) (fun _ _ _ h=>h) (Or.inl ⟨by rfl,?_⟩) ?_ ?_
                rotate_left
                ·intro w';go_simp;with_reducible rfl
                rotate_left
                ·simp only[Act.put,sZ0,sZ1,sZ2,i64_w,i32_w];rfl
                refine pure_ (i:=3) (N:=some 26) (v:=?_) (a':=?_) #[true,true,false,true,false,false,false,false,false,false,false,false,false,false,false,false,false,false,false,false,false,false,false,false,false,false,false,false,false,false,false,false,false,false,false,false,false,false,false,false,false,false,false,false,false,false] rfl rfl (any_of HT_.out (by kernel_rfl)) (fun _ _ _ h=>h) (Or.inl ⟨by rfl,?_⟩) ?_ ?_
                rotate_left
                ·intro w';go_simp;with_reducible rfl
                rotate_left
                ·simp only[Act.put,sZ0,sZ1,sZ2,i64_w,i32_w];rfl
                refine pure_ (i:=4) (N:=some 27) (v:=?_) (a':=?_) #[true,true,false,true,true,false,false,false,false,false,false,false,false,false,false,false,false,false,false,false,false,false,false,false,false,false,false,false,false,false,false,false,false,false,false,false,false,false,false,false,false,false,false,false,false,false] rfl rfl (any_of HT_.out (by kernel_rfl)) (fun _ _ _ h=>h) (Or.inl ⟨by rfl,?_⟩) ?_ ?_
                rotate_left
                ·intro w';go_simp;with_reducible rfl
                rotate_left
                ·simp only[Act.put,sZ0,sZ1,sZ2,i64_w,i32_w];rfl
                refine pure_ (i:=7) (N:=some 30) (v:=?_) (a':=?_) #[true,true,false,true,true,false,false,true,false,false,false,false,false,false,false,false,false,false,false,false,false,false,false,false,false,false,false,false,false,false,false,false,false,false,false,false,false,false,false,false,false,false,false,false,false,false] rfl rfl (any_of HT_.out (by kernel_rfl)) (fun _ _ _ h=>h) (Or.inl ⟨by rfl,?_⟩) ?_ ?_
                rotate_left
                ·intro w';go_simp;with_reducible rfl
                rotate_left
                ·simp only[Act.put,sZ0,sZ1,sZ2,i64_w,i32_w];rfl
                refine pure_ (i:=8) (N:=some 31) (v:=?_) (a':=?_) #[true,true,false,true,true,false,false,true,true,false,false,false,false,false,false,false,false,false,false,false,false,false,false,false,false,false,false,false,false,false,false,false,false,false,false,false,false,false,false,false,false,false,false,false,false,false] rfl rfl (any_of HT_.out (by kernel_rfl)) (fun _ _ _ h=>h) (Or.inl ⟨by rfl,?_⟩) ?_ ?_
                rotate_left
                ·intro w';go_simp;with_reducible rfl
                rotate_left
                ·simp only[Act.put,sZ0,sZ1,sZ2,i64_w,i32_w];rfl
                refine pure_ (i:=12) (N:=some 35) (v:=?_) (a':=?_) #[true,true,false,true,true,false,false,true,true,false,false,false,true,false,false,false,false,false,false,false,false,false,false,false,false,false,false,false,false,false,false,false,false,false,false,false,false,false,false,false,false,false,false,false,false,false] rfl rfl (any_of HT_.out (by kernel_rfl)) (fun _ _ _ h=>h) (Or.inl ⟨by rfl,?_⟩) ?_ ?_
                rotate_left
                ·intro w';go_simp;with_reducible rfl
                rotate_left
                ·simp only[Act.put,sZ0,sZ1,sZ2,i64_w,i32_w];rfl
                refine pure_ (i:=13) (N:=some 36) (v:=?_) (a':=?_) #[true,true,false,true,true,false,false,true,true,false,false,false,true,true,false,false,false,false,false,false,false,false,false,false,false,false,false,false,false,false,false,false,false,false,false,false,false,false,false,false,false,false,false,false,false,false] rfl rfl (any_of HT_.out (by kernel_rfl)) (fun _ _ _ h=>h) (Or.inl ⟨by rfl,?_⟩) ?_ ?_
                rotate_left
                ·intro w';go_simp;with_reducible rfl
                rotate_left
                ·simp only[Act.put,sZ0,sZ1,sZ2,i64_w,i32_w];rfl
                refine pure_ (i:=18) (N:=some 41) (v:=?_) (a':=?_) #[true,true,false,true,true,false,false,true,true,false,false,false,true,true,false,false,false,false,true,false,false,false,false,false,false,false,false,false,false,false,false,false,false,false,false,false,false,false,false,false,false,false,false,false,false,false] rfl rfl (any_of HT_.out (by kernel_rfl)) (fun _ _ _ h=>h) (Or.inl ⟨by rfl,?_⟩) ?_ ?_
                rotate_left
                ·intro w';go_simp;with_reducible rfl
                rotate_left
                ·simp only[Act.put,sZ0,sZ1,sZ2,i64_w,i32_w];rfl
                refine pure_ (i:=19) (N:=some 42) (v:=?_) (a':=?_) #[true,true,false,true,true,false,false,true,true,false,false,false,true,true,false,false,false,false,true,true,false,false,false,false,false,false,false,false,false,false,false,false,false,false,false,false,false,false,false,false,false,false,false,false,false,false] rfl rfl (any_of HT_.out (by kernel_rfl)) (fun _ _ _ h=>h) (Or.inl ⟨by rfl,?_⟩) ?_ ?_
                rotate_left
                ·intro w';go_simp;with_reducible rfl
                rotate_left
                ·simp only[Act.put,sZ0,sZ1,sZ2,i64_w,i32_w];rfl
                refine pure_ (i:=21) (N:=some 44) (v:=?_) (a':=?_) #[true,true,false,true,true,false,false,true,true,false,false,false,true,true,false,false,false,false,true,true,false,true,false,false,false,false,false,false,false,false,false,false,false,false,false,false,false,false,false,false,false,false,false,false,false,false] rfl rfl (any_of HT_.out (by kernel_rfl)) (fun _ _ _ h=>h) (Or.inl ⟨by rfl,?_⟩) ?_ ?_
                rotate_left
                ·intro w';go_simp;with_reducible rfl
                rotate_left
                ·simp only[Act.put,sZ0,sZ1,sZ2,i64_w,i32_w];rfl
                refine pure_ (i:=22) (N:=some 45) (v:=?_) (a':=?_) #[true,true,false,true,true,false,false,true,true,false,false,false,true,true,false,false,false,false,true,true,false,true,true,false,false,false,false,false,false,false,false,false,false,false,false,false,false,false,false,false,false,false,false,false,false,false] rfl rfl (any_of HT_.out (by kernel_rfl)) (fun _ _ _ h=>h) (Or.inl ⟨by rfl,?_⟩) ?_ ?_
                rotate_left
                ·intro w';go_simp;with_reducible rfl
                rotate_left
                ·simp only[Act.put,sZ0,sZ1,sZ2,i64_w,i32_w];rfl
                refine pure_ (i:=25) (N:=some 48) (v:=?_) (a':=?_) #[true,true,false,true,true,false,false,true,true,false,false,false,true,true,false,false,false,false,true,true,false,true,true,false,false,true,false,false,false,false,false,false,false,false,false,false,false,false,false,false,false,false,false,false,false,false] rfl rfl (any_of HT_.out (by kernel_rfl)) (fun _ _ _ h=>h) (Or.inl ⟨by rfl,?_⟩) ?_ ?_
                rotate_left
                ·intro w';go_simp;with_reducible rfl
                rotate_left
                ·simp only[Act.put,sZ0,sZ1,sZ2,i64_w,i32_w];rfl
                refine pure_ (i:=26) (N:=some 49) (v:=?_) (a':=?_) #[true,true,false,true,true,false,false,true,true,false,false,false,true,true,false,false,false,false,true,true,false,true,true,false,false,true,true,false,false,false,false,false,false,false,false,false,false,false,false,false,false,false,false,false,false,false] rfl rfl (any_of HT_.out (by kernel_rfl)) (fun _ _ _ h=>h) (Or.inl ⟨by rfl,?_⟩) ?_ ?_
                rotate_left
                ·intro w';go_simp;with_reducible rfl
                rotate_left
                ·simp only[Act.put,sZ0,sZ1,sZ2,i64_w,i32_w];rfl
                refine pure_ (i:=29) (N:=some 52) (v:=?_) (a':=?_) #[true,true,false,true,true,false,false,true,true,false,false,false,true,true,false,false,false,false,true,true,false,true,true,false,false,true,true,false,false,true,false,false,false,false,false,false,false,false,false,false,false,false,false,false,false,false] rfl rfl (any_of HT_.out (by kernel_rfl)) (fun _ _ _ h=>h) (Or.inl ⟨by rfl,?_⟩) ?_ ?_
                rotate_left
                ·intro w';go_simp;with_reducible rfl
                rotate_left
                ·simp only[Act.put,sZ0,sZ1,sZ2,i64_w,i32_w];rfl
                refine pure_ (i:=30) (N:=some 53) (v:=?_) (a':=?_) #[true,true,false,true,true,false,false,true,true,false,false,false,true,true,false,false,false,false,true,true,false,true,true,false,false,true,true,false,false,true,true,false,false,false,false,false,false,false,false,false,false,false,false,false,false,false] rfl rfl (any_of HT_.out (by kernel_rfl)) (fun _ _ _ h=>h) (Or.inl ⟨by rfl,?_⟩) ?_ ?_
                rotate_left
                ·intro w';go_simp;with_reducible rfl
                rotate_left
                ·simp only[Act.put,sZ0,sZ1,sZ2,i64_w,i32_w];rfl
                refine pure_ (i:=35) (N:=some 58) (v:=?_) (a':=?_) #[true,true,false,true,true,false,false,true,true,false,false,false,true,true,false,false,false,false,true,true,false,true,true,false,false,true,true,false,false,true,true,false,false,false,false,true,false,false,false,false,false,false,false,false,false,false] rfl rfl (any_of HT_.out (by kernel_rfl)) (fun _ _ _ h=>h) (Or.inl ⟨by rfl,?_⟩) ?_ ?_
                rotate_left
                ·intro w';go_simp;with_reducible rfl
                rotate_left
                ·simp only[Act.put,sZ0,sZ1,sZ2,i64_w,i32_w];rfl
                refine pure_ (i:=36) (N:=some 59) (v:=?_) (a':=?_) #[true,true,false,true,true,false,false,true,true,false,false,false,true,true,false,false,false,false,true,true,false,true,true,false,false,true,true,false,false,true,true,false,false,false,false,true,true,false,false,false,false,false,false,false,false,false] rfl rfl (any_of HT_.out (by kernel_rfl)) (fun _ _ _ h=>h) (Or.inl ⟨by rfl,?_⟩) ?_ ?_
                rotate_left
                ·intro w';go_simp;with_reducible rfl
                rotate_left
                ·simp only[Act.put,sZ0,sZ1,sZ2,i64_w,i32_w];rfl
                refine pure_ (i:=37) (N:=some 60) (v:=?_) (a':=?_) #[true,true,false,true,true,false,false,true,true,false,false,false,true,true,false,false,false,false,true,true,false,true,true,false,false,true,true,false,false,true,true,false,false,false,false,true,true,true,false,false,false,false,false,false,false,false] rfl rfl (any_of HT_.out (by kernel_rfl)) (fun _ _ _ h=>h) (Or.inl ⟨by rfl,?_⟩) ?_ ?_
                rotate_left
                ·intro w';go_simp;with_reducible rfl
                rotate_left
                ·simp only[Act.put,sZ0,sZ1,sZ2,i64_w,i32_w];rfl
                refine pure_ (i:=40) (N:=some 63) (v:=?_) (a':=?_) #[true,true,false,true,true,false,false,true,true,false,false,false,true,true,false,false,false,false,true,true,false,true,true,false,false,true,true,false,false,true,true,false,false,false,false,true,true,true,false,false,true,false,false,false,false,false] rfl rfl (any_of HT_.out (by kernel_rfl)) (fun _ _ _ h=>h) (Or.inl ⟨by rfl,?_⟩) ?_ ?_
                rotate_left
                ·intro w';go_simp;with_reducible rfl
                rotate_left
                ·simp only[Act.put,sZ0,sZ1,sZ2,i64_w,i32_w];rfl
                refine pure_ (i:=41) (N:=some 64) (v:=?_) (a':=?_) #[true,true,false,true,true,false,false,true,true,false,false,false,true,true,false,false,false,false,true,true,false,true,true,false,false,true,true,false,false,true,true,false,false,false,false,true,true,true,false,false,true,true,false,false,false,false] rfl rfl (any_of HT_.out (by kernel_rfl)) (fun _ _ _ h=>h) (Or.inl ⟨by rfl,?_⟩) ?_ ?_
                rotate_left
                ·intro w';go_simp;with_reducible rfl
                rotate_left
                ·simp only[Act.put,sZ0,sZ1,sZ2,i64_w,i32_w];rfl
                refine pure_ (i:=42) (N:=some 65) (v:=?_) (a':=?_) #[true,true,false,true,true,false,false,true,true,false,false,false,true,true,false,false,false,false,true,true,false,true,true,false,false,true,true,false,false,true,true,false,false,false,false,true,true,true,false,false,true,true,true,false,false,false] rfl rfl (any_of HT_.out (by kernel_rfl)) (fun _ _ _ h=>h) (Or.inl ⟨by rfl,?_⟩) ?_ ?_
                rotate_left
                ·intro w';go_simp;with_reducible rfl
                rotate_left
                ·simp only[Act.put,sZ0,sZ1,sZ2,i64_w,i32_w];rfl
                refine take_ (i:=2) (N:=some 25) (v:=?_) (a':=?_) #[true,true,true,true,true,false,false,true,true,false,false,false,true,true,false,false,false,false,true,true,false,true,true,false,false,true,true,false,false,true,true,false,false,false,false,true,true,true,false,false,true,true,true,false,false,false] rfl rfl (take_ofW HT_.out HW_.out (by kernel_rfl)) (fun _ _ _ h=>h) (Or.inl ⟨by rfl,?_⟩) hHeld ?_ ?_
                rotate_left
                ·rintro w' ⟨s0,s1,s2,s3,s4,s5,s6,s7,s8,s9⟩
                 go_simp;with_reducible rfl
                rotate_left
                ·simp only[Act.put,sZ0,sZ1,sZ2,i64_w,i32_w];rfl
                refine take_ (i:=5) (N:=some 28) (v:=?_) (a':=?_) #[true,true,true,true,true,true,false,true,true,false,false,false,true,true,false,false,false,false,true,true,false,true,true,false,false,true,true,false,false,true,true,false,false,false,false,true,true,true,false,false,true,true,true,false,false,false] rfl rfl (take_ofW HT_.out HW_.out (by kernel_rfl)) (fun _ _ _ h=>h) (Or.inl ⟨by rfl,?_⟩) hHeld ?_ ?_
                rotate_left
                ·rintro w' ⟨s0,s1,s2,s3,s4,s5,s6,s7,s8,s9⟩
                 go_simp;with_reducible rfl
                rotate_left
                ·simp only[Act.put,sZ0,sZ1,sZ2,i64_w,i32_w];rfl
                refine take_ (i:=9) (N:=some 32) (v:=?_) (a':=?_) #[true,true,true,true,true,true,false,true,true,true,false,false,true,true,false,false,false,false,true,true,false,true,true,false,false,true,true,false,false,true,true,false,false,false,false,true,true,true,false,false,true,true,true,false,false,false] rfl rfl (take_ofW HT_.out HW_.out (by kernel_rfl)) (fun _ _ _ h=>h) (Or.inl ⟨by rfl,?_⟩) hHeld ?_ ?_
                rotate_left
                ·rintro w' ⟨s0,s1,s2,s3,s4,s5,s6,s7,s8,s9⟩
                 go_simp;with_reducible rfl
                rotate_left
                ·simp only[Act.put,sZ0,sZ1,sZ2,i64_w,i32_w];rfl
                refine take_ (i:=14) (N:=some 37) (v:=?_) (a':=?_) #[true,true,true,true,true,true,false,true,true,true,false,false,true,true,true,false,false,false,true,true,false,true,true,false,false,true,true,false,false,true,true,false,false,false,false,true,true,true,false,false,true,true,true,false,false,false] rfl rfl (take_ofW HT_.out HW_.out (by kernel_rfl)) (fun _ _ _ h=>h) (Or.inl ⟨by rfl,?_⟩) hHeld ?_ ?_
                rotate_left
                ·rintro w' ⟨s0,s1,s2,s3,s4,s5,s6,s7,s8,s9⟩
                 go_simp;with_reducible rfl
                rotate_left
                ·simp only[Act.put,sZ0,sZ1,sZ2,i64_w,i32_w];rfl
                refine take_ (i:=20) (N:=some 43) (v:=?_) (a':=?_) #[true,true,true,true,true,true,false,true,true,true,false,false,true,true,true,false,false,false,true,true,true,true,true,false,false,true,true,false,false,true,true,false,false,false,false,true,true,true,false,false,true,true,true,false,false,false] rfl rfl (take_ofW HT_.out HW_.out (by kernel_rfl)) (fun _ _ _ h=>h) (Or.inl ⟨by rfl,?_⟩) hHeld ?_ ?_
                rotate_left
                ·rintro w' ⟨s0,s1,s2,s3,s4,s5,s6,s7,s8,s9⟩
                 go_simp;with_reducible rfl
                rotate_left
                ·simp only[Act.put,sZ0,sZ1,sZ2,i64_w,i32_w];rfl
                refine take_ (i:=23) (N:=some 46) (v:=?_) (a':=?_) #[true,true,true,true,true,true,false,true,true,true,false,false,true,true,true,false,false,false,true,true,true,true,true,true,false,true,true,false,false,true,true,false,false,false,false,true,true,true,false,false,true,true,true,false,false,false] rfl rfl (take_ofW HT_.out HW_.out (by kernel_rfl)) (fun _ _ _ h=>h) (Or.inl ⟨by rfl,?_⟩) hHeld ?_ ?_
                rotate_left
                ·rintro w' ⟨s0,s1,s2,s3,s4,s5,s6,s7,s8,s9⟩
                 go_simp;with_reducible rfl
                rotate_left
                ·simp only[Act.put,sZ0,sZ1,sZ2,i64_w,i32_w];rfl
                refine pure_ (i:=24) (N:=some 47) (v:=?_) (a':=?_) #[true,true,true,true,true,true,false,true,true,true,false,false,true,true,true,false,false,false,true,true,true,true,true,true,true,true,true,false,false,true,true,false,false,false,false,true,true,true,false,false,true,true,true,false,false,false] rfl rfl (any_of HT_.out (by kernel_rfl)) (fun _ _ _ h=>h) (Or.inl ⟨by rfl,?_⟩) ?_ ?_
                rotate_left
                ·intro w';go_simp;with_reducible rfl
                rotate_left
                ·simp only[Act.put,sZ0,sZ1,sZ2,i64_w,i32_w];rfl
                refine take_ (i:=27) (N:=some 50) (v:=?_) (a':=?_) #[true,true,true,true,true,true,false,true,true,true,false,false,true,true,true,false,false,false,true,true,true,true,true,true,true,true,true,true,false,true,true,false,false,false,false,true,true,true,false,false,true,true,true,false,false,false] rfl rfl (take_ofW HT_.out HW_.out (by kernel_rfl)) (fun _ _ _ h=>h) (Or.inl ⟨by rfl,?_⟩) hHeld ?_ ?_
                rotate_left
                ·rintro w' ⟨s0,s1,s2,s3,s4,s5,s6,s7,s8,s9⟩
                 go_simp;with_reducible rfl
                rotate_left
                ·simp only[Act.put,sZ0,sZ1,sZ2,i64_w,i32_w];rfl
                refine pure_ (i:=28) (N:=some 51) (v:=?_) (a':=?_) #[true,true,true,true,true,true,false,true,true,true,false,false,true,true,true,false,false,false,true,true,true,true,true,true,true,true,true,true,true,true,true,false,false,false,false,true,true,true,false,false,true,true,true,false,false,false] rfl rfl (any_of HT_.out (by kernel_rfl)) (fun _ _ _ h=>h) (Or.inl ⟨by rfl,?_⟩) ?_ ?_
                rotate_left
                ·intro w';go_simp;with_reducible rfl
                rotate_left
                ·simp only[Act.put,sZ0,sZ1,sZ2,i64_w,i32_w];rfl
                refine take_ (i:=31) (N:=some 54) (v:=?_) (a':=?_) #[true,true,true,true,true,true,false,true,true,true,false,false,true,true,true,false,false,false,true,true,true,true,true,true,true,true,true,true,true,true,true,true,false,false,false,true,true,true,false,false,true,true,true,false,false,false] rfl rfl (take_ofW HT_.out HW_.out (by kernel_rfl)) (fun _ _ _ h=>h) (Or.inl ⟨by rfl,?_⟩) hHeld ?_ ?_
                rotate_left
                ·rintro w' ⟨s0,s1,s2,s3,s4,s5,s6,s7,s8,s9⟩
                 go_simp;with_reducible rfl
                rotate_left
                ·simp only[Act.put,sZ0,sZ1,sZ2,i64_w,i32_w];rfl
                refine pure_ (i:=32) (N:=some 55) (v:=?_) (a':=?_) #[true,true,true,true,true,true,false,true,true,true,false,false,true,true,true,false,false,false,true,true,true,true,true,true,true,true,true,true,true,true,true,true,true,false,false,true,true,true,false,false,true,true,true,false,false,false] rfl rfl (any_of HT_.out (by kernel_rfl)) (fun _ _ _ h=>h) (Or.inl ⟨by rfl,?_⟩) ?_ ?_
                rotate_left
                ·intro w';go_simp;with_reducible rfl
                rotate_left
                ·simp only[Act.put,sZ0,sZ1,sZ2,i64_w,i32_w];rfl
                refine pure_ (i:=33) (N:=some 56) (v:=?_) (a':=?_) #[true,true,true,true,true,true,false,true,true,true,false,false,true,true,true,false,false,false,true,true,true,true,true,true,true,true,true,true,true,true,true,true,true,true,false,true,true,true,false,false,true,true,true,false,false,false] rfl rfl (any_of HT_.out (by kernel_rfl)) (fun _ _ _ h=>h) (Or.inl ⟨by rfl,?_⟩) ?_ ?_
                rotate_left
                ·intro w';go_simp;with_reducible rfl
                rotate_left
                ·simp only[Act.put,sZ0,sZ1,sZ2,i64_w,i32_w];rfl
                refine take_ (i:=38) (N:=some 61) (v:=?_) (a':=?_) #[true,true,true,true,true,true,false,true,true,true,false,false,true,true,true,false,false,false,true,true,true,true,true,true,true,true,true,true,true,true,true,true,true,true,false,true,true,true,true,false,true,true,true,false,false,false] rfl rfl (take_ofW HT_.out HW_.out (by kernel_rfl)) (fun _ _ _ h=>h) (Or.inl ⟨by rfl,?_⟩) hHeld ?_ ?_
                rotate_left
                ·rintro w' ⟨s0,s1,s2,s3,s4,s5,s6,s7,s8,s9⟩
                 go_simp;with_reducible rfl
                rotate_left
                ·simp only[Act.put,sZ0,sZ1,sZ2,i64_w,i32_w];rfl
                refine take_ (i:=43) (N:=some 66) (v:=?_) (a':=?_) #[true,true,true,true,true,true,false,true,true,true,false,false,true,true,true,false,false,false,true,true,true,true,true,true,true,true,true,true,true,true,true,true,true,true,false,true,true,true,true,false,true,true,true,true,false,false] rfl rfl (take_ofW HT_.out HW_.out (by kernel_rfl)) (fun _ _ _ h=>h) (Or.inl ⟨by rfl,?_⟩) hHeld ?_ ?_
                rotate_left
                ·rintro w' ⟨s0,s1,s2,s3,s4,s5,s6,s7,s8,s9⟩
                 go_simp;with_reducible rfl
                rotate_left
                ·simp only[Act.put,sZ0,sZ1,sZ2,i64_w,i32_w];rfl
                refine one_ (i:=6) (N:=some 29) #[true,true,true,true,true,true,true,true,true,true,false,false,true,true,true,false,false,false,true,true,true,true,true,true,true,true,true,true,true,true,true,true,true,true,false,true,true,true,true,false,true,true,true,true,false,false] rfl rfl (one_of HT_.out (by kernel_rfl)) (by decide) (fun K hK=>?_)
                refine goes_ Try.func102 (by kernel_rfl) rfl #[.int .u32 (rd x7_1 4),.int .i64 6] (by rfl) rfl rfl (by (try simp only[List.map_toArray,List.map_cons,List.map_nil]);first | done | rfl | (simp only[List.length_drop,List.length_take];rfl)) ?_
                with_reducible refine (nepentheref02_rotr.calls k1 (rd x7_1 4) 6 t325 _ A14.out).mono ?_
                rintro e w' ⟨rfl,⟨nd,rfl⟩⟩
                refine ⟨_,rfl,?_⟩
                refine hK.out _ _ ⟨hHeld.1,hHeld.2.1,hHeld.2.2.1,hHeld.2.2.2.1,hHeld.2.2.2.2.1,hHeld.2.2.2.2.2.1,hHeld.2.2.2.2.2.2.1,hHeld.2.2.2.2.2.2.2.1,hHeld.2.2.2.2.2.2.2.2.1,hHeld.2.2.2.2.2.2.2.2.2⟩ (fun hHeld=>?_)
                clear hK K;refine norm_ (a':=?_) ?_ ?_
                rotate_left
                ·show Act.put _ (some 29) _=_
                 simp only[Act.put,sZ0,sZ1,sZ2,i64_w,i32_w];rfl
                refine one_ (i:=10) (N:=some 33) #[true,true,true,true,true,true,true,true,true,true,true,false,true,true,true,false,false,false,true,true,true,true,true,true,true,true,true,true,true,true,true,true,true,true,false,true,true,true,true,false,true,true,true,true,false,false] rfl rfl (one_of HT_.out (by kernel_rfl)) (by decide) (fun K hK=>?_)
                refine goes_ Try.func102 (by kernel_rfl) rfl #[.int .u32 (rd x7_1 4),.int .i64 11] (by rfl) rfl rfl (by (try simp only[List.map_toArray,List.map_cons,List.map_nil]);first | done | rfl | (simp only[List.length_drop,List.length_take];rfl)) ?_
                with_reducible refine (nepentheref02_rotr.calls k1 (rd x7_1 4) 11 t327 _ A15.out).mono ?_
                rintro e w' ⟨rfl,⟨nd,rfl⟩⟩
                refine ⟨_,rfl,?_⟩
                refine hK.out _ _ ⟨hHeld.1,hHeld.2.1,hHeld.2.2.1,hHeld.2.2.2.1,hHeld.2.2.2.2.1,hHeld.2.2.2.2.2.1,hHeld.2.2.2.2.2.2.1,hHeld.2.2.2.2.2.2.2.1,hHeld.2.2.2.2.2.2.2.2.1,hHeld.2.2.2.2.2.2.2.2.2⟩ (fun hHeld=>?_)
                clear hK K;refine norm_ (a':=?_) ?_ ?_
                rotate_left
                ·show Act.put _ (some 33) _=_
                 simp only[Act.put,sZ0,sZ1,sZ2,i64_w,i32_w];rfl
                refine pure_ (i:=11) (N:=some 34) (v:=?_) (a':=?_) #[true,true,true,true,true,true,true,true,true,true,true,true,true,true,true,false,false,false,true,true,true,true,true,true,true,true,true,true,true,true,true,true,true,true,false,true,true,true,true,false,true,true,true,true,false,false] rfl rfl (any_of HT_.out (by kernel_rfl)) (fun _ _ _ h=>h) (Or.inl ⟨by rfl,?_⟩) ?_ ?_
                rotate_left
                ·intro w';go_simp;with_reducible rfl
                rotate_left
                ·simp only[Act.put,sZ0,sZ1,sZ2,i64_w,i32_w];rfl
                refine one_ (i:=15) (N:=some 38) #[true,true,true,true,true,true,true,true,true,true,true,true,true,true,true,true,false,false,true,true,true,true,true,true,true,true,true,true,true,true,true,true,true,true,false,true,true,true,true,false,true,true,true,true,false,false] rfl rfl (one_of HT_.out (by kernel_rfl)) (by decide) (fun K hK=>?_)
                refine goes_ Try.func102 (by kernel_rfl) rfl #[.int .u32 (rd x7_1 4),.int .i64 25] (by rfl) rfl rfl (by (try simp only[List.map_toArray,List.map_cons,List.map_nil]);first | done | rfl | (simp only[List.length_drop,List.length_take];rfl)) ?_
                with_reducible refine (nepentheref02_rotr.calls k1 (rd x7_1 4) 25 t329 _ A16.out).mono ?_
                rintro e w' ⟨rfl,⟨nd,rfl⟩⟩
                refine ⟨_,rfl,?_⟩
                refine hK.out _ _ ⟨hHeld.1,hHeld.2.1,hHeld.2.2.1,hHeld.2.2.2.1,hHeld.2.2.2.2.1,hHeld.2.2.2.2.2.1,hHeld.2.2.2.2.2.2.1,hHeld.2.2.2.2.2.2.2.1,hHeld.2.2.2.2.2.2.2.2.1,hHeld.2.2.2.2.2.2.2.2.2⟩ (fun hHeld=>?_)
                clear hK K;refine norm_ (a':=?_) ?_ ?_
                rotate_left
                ·show Act.put _ (some 38) _=_
                 simp only[Act.put,sZ0,sZ1,sZ2,i64_w,i32_w];rfl
                refine pure_ (i:=16) (N:=some 39) (v:=?_) (a':=?_) #[true,true,true,true,true,true,true,true,true,true,true,true,true,true,true,true,true,false,true,true,true,true,true,true,true,true,true,true,true,true,true,true,true,true,false,true,true,true,true,false,true,true,true,true,false,false] rfl rfl (any_of HT_.out (by kernel_rfl)) (fun _ _ _ h=>h) (Or.inl ⟨by rfl,?_⟩) ?_ ?_
                rotate_left
                ·intro w';go_simp;with_reducible rfl
                rotate_left
                ·simp only[Act.put,sZ0,sZ1,sZ2,i64_w,i32_w];rfl
                refine pure_ (i:=17) (N:=some 40) (v:=?_) (a':=?_) #[true,true,true,true,true,true,true,true,true,true,true,true,true,true,true,true,true,true,true,true,true,true,true,true,true,true,true,true,true,true,true,true,true,true,false,true,true,true,true,false,true,true,true,true,false,false] rfl rfl (any_of HT_.out (by kernel_rfl)) (fun _ _ _ h=>h) (Or.inl ⟨by rfl,?_⟩) ?_ ?_
                rotate_left
                ·intro w';go_simp;with_reducible rfl
                rotate_left
                ·simp only[Act.put,sZ0,sZ1,sZ2,i64_w,i32_w];rfl
                refine pure_ (i:=34) (N:=some 57) (v:=?_) (a':=?_) #[true,true,true,true,true,true,true,true,true,true,true,true,true,true,true,true,true,true,true,true,true,true,true,true,true,true,true,true,true,true,true,true,true,true,true,true,true,true,true,false,true,true,true,true,false,false] rfl rfl (any_of HT_.out (by kernel_rfl)) (fun _ _ _ h=>h) (Or.inl ⟨by rfl,?_⟩) ?_ ?_
                rotate_left
                ·intro w';go_simp;with_reducible rfl
                rotate_left
                ·simp only[Act.put,sZ0,sZ1,sZ2,i64_w,i32_w];rfl
                refine pure_ (i:=39) (N:=some 62) (v:=?_) (a':=?_) #[true,true,true,true,true,true,true,true,true,true,true,true,true,true,true,true,true,true,true,true,true,true,true,true,true,true,true,true,true,true,true,true,true,true,true,true,true,true,true,true,true,true,true,true,false,false] rfl rfl (any_of HT_.out (by kernel_rfl)) (fun _ _ _ h=>h) (Or.inl ⟨by rfl,?_⟩) ?_ ?_
                rotate_left
                ·intro w';go_simp;with_reducible rfl
                rotate_left
                ·simp only[Act.put,sZ0,sZ1,sZ2,i64_w,i32_w];rfl
                refine pure_ (i:=44) (N:=some 67) (v:=?_) (a':=?_) #[true,true,true,true,true,true,true,true,true,true,true,true,true,true,true,true,true,true,true,true,true,true,true,true,true,true,true,true,true,true,true,true,true,true,true,true,true,true,true,true,true,true,true,true,true,false] rfl rfl (any_of HT_.out (by kernel_rfl)) (fun _ _ _ h=>h) (Or.inl ⟨by rfl,?_⟩) ?_ ?_
                rotate_left
                ·intro w';go_simp;with_reducible rfl
                rotate_left
                ·simp only[Act.put,sZ0,sZ1,sZ2,i64_w,i32_w];rfl
                refine pure_ (i:=45) (N:=some 9) (v:=?_) (a':=?_) #[true,true,true,true,true,true,true,true,true,true,true,true,true,true,true,true,true,true,true,true,true,true,true,true,true,true,true,true,true,true,true,true,true,true,true,true,true,true,true,true,true,true,true,true,true,true] rfl rfl (any_of HT_.out (by kernel_rfl)) (fun _ _ _ h=>h) (Or.inl ⟨by rfl,?_⟩) ?_ ?_
                rotate_left
                ·intro w';go_simp;with_reducible rfl
                rotate_left
                ·simp only[Act.put,sZ0,sZ1,sZ2,i64_w,i32_w];rfl
                refine done_ (done_of HT_.out (by kernel_rfl)) ?_
                try go_wp2
                (try (rw[drewN_self w29];generalize hq_:World.drewN w29 _=w29;have n0_:Aside0 (Kd.R (Kd.int .u32) 87 w29 w.heap.size (fun k_=>some k_≠(.slice (some ad334) t314.length co31:Value).ownBlock∧some k_≠(.slice (some ad323) x7_1.length co30:Value).ownBlock) (.slice (some ad335) t311.length co32) t311):=⟨by rw[← hq_];exact (by (with_reducible repeat (first | apply Kd.R_alloc | apply Kd.R_drewN | apply Kd.R_drew));exact HO_5.out)⟩;have n1_:Aside0 (Kd.R (Kd.int .u32) 87 w29 w.heap.size (fun k_=>some k_≠(.slice (some ad335) t311.length co32:Value).ownBlock∧some k_≠(.slice (some ad323) x7_1.length co30:Value).ownBlock) (.slice (some ad334) t314.length co31) t314):=⟨by rw[← hq_];exact (by (with_reducible repeat (first | apply Kd.R_alloc | apply Kd.R_drewN | apply Kd.R_drew));exact HO_6.out)⟩;have n2_:Aside0 (Kd.R (Kd.int .u32) 87 w29 w.heap.size (fun k_=>some k_≠(.slice (some ad335) t311.length co32:Value).ownBlock∧some k_≠(.slice (some ad334) t314.length co31:Value).ownBlock) (.slice (some ad323) x7_1.length co30) x7_1):=⟨by rw[← hq_];exact (by (with_reducible repeat (first | apply Kd.R_alloc | apply Kd.R_drewN | apply Kd.R_drew));exact HO_7.out)⟩;have n3_:Aside0 (Below w.heap.size w w29):=⟨by rw[← hq_];exact (by repeat (first | (with_reducible first | exact HB.out | apply below_alloc | apply pw_below_drewN | apply below_drew1) | exact HB.out))⟩;clear HO_5 HO_6 HO_7 HB hq_;have HO_5:=n0_;have HO_6:=n1_;have HO_7:=n2_;have HB:=n3_;clear n0_ n1_ n2_ n3_))
                have n0_:=Aside0.mk (Kd.R_drew HO_5.out)
                have n1_:=Aside0.mk (Kd.R_drew HO_6.out)
                have n2_:=Aside0.mk (Kd.R_drew HO_7.out)
                have n3_:=Aside0.mk (below_drew1 HB.out)
                clear HO_5
                clear HO_6
                clear HO_7
                clear HB
                have HO_5:=n0_
                have HO_6:=n1_
                have HO_7:=n2_
                have HB:=n3_
                clear n0_ n1_ n2_ n3_
                have p336:0≤(0:Int):=(by omega)
                have q336:0<(x7_1.length:Int):=of_decide_eq_true (by first | (with_reducible assumption) | assumption)
                obtain ⟨ad336,e336,hx336_0⟩:=Kd.at_int (Kd.R_reads' HO_7.out).2.2 0 p336 q336
                obtain rfl:ad323=ad336:=(by injection e336)
                have qi336:(0<x7_1.length)=True:=eq_true (by omega)
                (try rw[show ((0:Int)).toNat=0 from rfl] at hx336_0)
                (try rw[Addr.add_zero'] at hx336_0)
                replace p336:=eq_true p336
                replace q336:=eq_true q336
                have p338:0≤(0:Int):=(by omega)
                have q338:0<(x7_1.length:Int):=of_decide_eq_true (by first | (with_reducible assumption) | assumption)
                obtain ⟨ad338,e338,hx338_0⟩:=Kd.at_int (Kd.R_reads' HO_7.out).2.2 0 p338 q338
                obtain rfl:ad323=ad338:=(by injection e338)
                have qi338:(0<x7_1.length)=True:=eq_true (by omega)
                (try rw[show ((0:Int)).toNat=0 from rfl] at hx338_0)
                (try rw[Addr.add_zero'] at hx338_0)
                replace p338:=eq_true p338
                replace q338:=eq_true q338
                have p340:0≤(0:Int):=(by omega)
                have q340:0<(x7_1.length:Int):=of_decide_eq_true (by first | (with_reducible assumption) | assumption)
                obtain ⟨ad340,e340,hx340_0⟩:=Kd.at_int (Kd.R_reads' HO_7.out).2.2 0 p340 q340
                obtain rfl:ad323=ad340:=(by injection e340)
                have qi340:(0<x7_1.length)=True:=eq_true (by omega)
                (try rw[show ((0:Int)).toNat=0 from rfl] at hx340_0)
                (try rw[Addr.add_zero'] at hx340_0)
                replace p340:=eq_true p340
                replace q340:=eq_true q340
                have p342:0≤(0:Int):=(by omega)
                have q342:0<(x7_1.length:Int):=of_decide_eq_true (by first | (with_reducible assumption) | assumption)
                obtain ⟨ad342,e342,hx342_0⟩:=Kd.at_int (Kd.R_reads' HO_7.out).2.2 0 p342 q342
                obtain rfl:ad323=ad342:=(by injection e342)
                have qi342:(0<x7_1.length)=True:=eq_true (by omega)
                (try rw[show ((0:Int)).toNat=0 from rfl] at hx342_0)
                (try rw[Addr.add_zero'] at hx342_0)
                replace p342:=eq_true p342
                replace q342:=eq_true q342
                have p343:0≤(1:Int):=(by omega)
                have q343:1<(x7_1.length:Int):=of_decide_eq_true (by first | (with_reducible assumption) | assumption)
                obtain ⟨ad343,e343,hx343_0⟩:=Kd.at_int (Kd.R_reads' HO_7.out).2.2 1 p343 q343
                obtain rfl:ad323=ad343:=(by injection e343)
                (try simp only[show (1:Int).toNat=1 from rfl,Nat.reduceMul,Nat.reduceEqDiff,Go.Addr.add,↓reduceIte] at hx343_0)
                have qi343:(1<x7_1.length)=True:=eq_true (by omega)
                (try rw[show ((1:Int)).toNat=1 from rfl] at hx343_0)
                replace p343:=eq_true p343
                replace q343:=eq_true q343
                have p344:0≤(0:Int):=(by omega)
                have q344:0<(x7_1.length:Int):=of_decide_eq_true (by first | (with_reducible assumption) | assumption)
                obtain ⟨ad344,e344,hx344_0⟩:=Kd.at_int (Kd.R_reads' HO_7.out).2.2 0 p344 q344
                obtain rfl:ad323=ad344:=(by injection e344)
                have qi344:(0<x7_1.length)=True:=eq_true (by omega)
                (try rw[show ((0:Int)).toNat=0 from rfl] at hx344_0)
                (try rw[Addr.add_zero'] at hx344_0)
                replace p344:=eq_true p344
                replace q344:=eq_true q344
                have p345:0≤(2:Int):=(by omega)
                have q345:2<(x7_1.length:Int):=of_decide_eq_true (by first | (with_reducible assumption) | assumption)
                obtain ⟨ad345,e345,hx345_0⟩:=Kd.at_int (Kd.R_reads' HO_7.out).2.2 2 p345 q345
                obtain rfl:ad323=ad345:=(by injection e345)
                (try simp only[show (2:Int).toNat=2 from rfl,Nat.reduceMul,Nat.reduceEqDiff,Go.Addr.add,↓reduceIte] at hx345_0)
                have qi345:(2<x7_1.length)=True:=eq_true (by omega)
                (try rw[show ((2:Int)).toNat=2 from rfl] at hx345_0)
                replace p345:=eq_true p345
                replace q345:=eq_true q345
                have p346:0≤(1:Int):=(by omega)
                have q346:1<(x7_1.length:Int):=of_decide_eq_true (by first | (with_reducible assumption) | assumption)
                obtain ⟨ad346,e346,hx346_0⟩:=Kd.at_int (Kd.R_reads' HO_7.out).2.2 1 p346 q346
                obtain rfl:ad323=ad346:=(by injection e346)
                (try simp only[show (1:Int).toNat=1 from rfl,Nat.reduceMul,Nat.reduceEqDiff,Go.Addr.add,↓reduceIte] at hx346_0)
                have qi346:(1<x7_1.length)=True:=eq_true (by omega)
                (try rw[show ((1:Int)).toNat=1 from rfl] at hx346_0)
                replace p346:=eq_true p346
                replace q346:=eq_true q346
                have p347:0≤(2:Int):=(by omega)
                have q347:2<(x7_1.length:Int):=of_decide_eq_true (by first | (with_reducible assumption) | assumption)
                obtain ⟨ad347,e347,hx347_0⟩:=Kd.at_int (Kd.R_reads' HO_7.out).2.2 2 p347 q347
                obtain rfl:ad323=ad347:=(by injection e347)
                (try simp only[show (2:Int).toNat=2 from rfl,Nat.reduceMul,Nat.reduceEqDiff,Go.Addr.add,↓reduceIte] at hx347_0)
                have qi347:(2<x7_1.length)=True:=eq_true (by omega)
                (try rw[show ((2:Int)).toNat=2 from rfl] at hx347_0)
                replace p347:=eq_true p347
                replace q347:=eq_true q347
                refine start_ (n:=39) (S:=fun w'=>w'.cell? ad323=some (.int .u32 (rd x7_1 0))∧w'.cell? ad323=some (.int .u32 (rd x7_1 0))∧w'.cell? ad323=some (.int .u32 (rd x7_1 0))∧w'.cell? ad323=some (.int .u32 (rd x7_1 0))∧w'.cell? ⟨ad323.block,ad323.off+1,none⟩=some (.int .u32 (rd x7_1 1))∧w'.cell? ad323=some (.int .u32 (rd x7_1 0))∧w'.cell? ⟨ad323.block,ad323.off+2,none⟩=some (.int .u32 (rd x7_1 2))∧w'.cell? ⟨ad323.block,ad323.off+1,none⟩=some (.int .u32 (rd x7_1 1))∧w'.cell? ⟨ad323.block,ad323.off+2,none⟩=some (.int .u32 (rd x7_1 2))) (ds:=[]) #[false,false,false,false,false,false,false,false,false,false,false,false,false,false,false,false,false,false,false,false,false,false,false,false,false,false,false,false,false,false,false,false,false,false,false,false,false,false,false] (by kernel_rfl) rfl rfl ⟨hx336_0,hx338_0,hx340_0,hx342_0,hx343_0,hx344_0,hx345_0,hx346_0,hx347_0⟩ (fun hHeld=>?_);refine with_tabW nepentheref02_Compress.tab8 nepentheref02_Compress.bits8 (fun HT_ HW_=>?_)
                generalize w29.drew=w33 at HO_5 HO_6 HO_7 HB hx336_0 hx338_0 hx340_0 hx342_0 hx343_0 hx344_0 hx345_0 hx346_0 hx347_0 hHeld ⊢
                refine pure_ (i:=0) (N:=some 68) (v:=?_) (a':=?_) #[true,false,false,false,false,false,false,false,false,false,false,false,false,false,false,false,false,false,false,false,false,false,false,false,false,false,false,false,false,false,false,false,false,false,false,false,false,false,false] rfl rfl (any_of HT_.out (by kernel_rfl)) (fun _ _ _ h=>h) (Or.inl ⟨by rfl,?_⟩) ?_ ?_
                rotate_left
                ·intro w';go_simp;with_reducible rfl
                rotate_left
                ·simp only[Act.put,sZ0,sZ1,sZ2,i64_w,i32_w];rfl
                refine pure_ (i:=1) (N:=some 69) (v:=?_) (a':=?_) #[true,true,false,false,false,false,false,false,false,false,false,false,false,false,false,false,false,false,false,false,false,false,false,false,false,false,false,false,false,false,false,false,false,false,false,false,false,false,false] rfl rfl (any_of HT_.out (by kernel_rfl)) (fun _ _ _ h=>h) (Or.inl ⟨by rfl,?_⟩) ?_ ?_
                rotate_left
                ·intro w';go_simp;with_reducible rfl
                rotate_left
                ·simp only[Act.put,sZ0,sZ1,sZ2,i64_w,i32_w];rfl
                refine pure_ (i:=4) (N:=some 72) (v:=?_) (a':=?_) #[true,true,false,false,true,false,false,false,false,false,false,false,false,false,false,false,false,false,false,false,false,false,false,false,false,false,false,false,false,false,false,false,false,false,false,false,false,false,false] rfl rfl (any_of HT_.out (by kernel_rfl)) (fun _ _ _ h=>h) (Or.inl ⟨by rfl,?_⟩) ?_ ?_
                rotate_left
                ·intro w';go_simp;with_reducible rfl
                rotate_left
                ·simp only[Act.put,sZ0,sZ1,sZ2,i64_w,i32_w];rfl
                refine pure_ (i:=5) (N:=some 73) (v:=?_) (a':=?_) #[true,true,false,false,true,true,false,false,false,false,false,false,false,false,false,false,false,false,false,false,false,false,false,false,false,false,false,false,false,false,false,false,false,false,false,false,false,false,false] rfl rfl (any_of HT_.out (by kernel_rfl)) (fun _ _ _ h=>h) (Or.inl ⟨by rfl,?_⟩) ?_ ?_
                rotate_left
                ·intro w';go_simp;with_reducible rfl
                rotate_left
                ·simp only[Act.put,sZ0,sZ1,sZ2,i64_w,i32_w];rfl
                refine pure_ (i:=9) (N:=some 77) (v:=?_) (a':=?_) #[true,true,false,false,true,true,false,false,false,true,false,false,false,false,false,false,false,false,false,false,false,false,false,false,false,false,false,false,false,false,false,false,false,false,false,false,false,false,false] rfl rfl (any_of HT_.out (by kernel_rfl)) (fun _ _ _ h=>h) (Or.inl ⟨by rfl,?_⟩) ?_ ?_
                rotate_left
                ·intro w';go_simp;with_reducible rfl
                rotate_left
                ·simp only[Act.put,sZ0,sZ1,sZ2,i64_w,i32_w];rfl
                refine pure_ (i:=10) (N:=some 78) (v:=?_) (a':=?_) #[true,true,false,false,true,true,false,false,false,true,true,false,false,false,false,false,false,false,false,false,false,false,false,false,false,false,false,false,false,false,false,false,false,false,false,false,false,false,false] rfl rfl (any_of HT_.out (by kernel_rfl)) (fun _ _ _ h=>h) (Or.inl ⟨by rfl,?_⟩) ?_ ?_
                rotate_left
                ·intro w';go_simp;with_reducible rfl
                rotate_left
                ·simp only[Act.put,sZ0,sZ1,sZ2,i64_w,i32_w];rfl
                refine pure_ (i:=14) (N:=some 82) (v:=?_) (a':=?_) #[true,true,false,false,true,true,false,false,false,true,true,false,false,false,true,false,false,false,false,false,false,false,false,false,false,false,false,false,false,false,false,false,false,false,false,false,false,false,false] rfl rfl (any_of HT_.out (by kernel_rfl)) (fun _ _ _ h=>h) (Or.inl ⟨by rfl,?_⟩) ?_ ?_
                rotate_left
                ·intro w';go_simp;with_reducible rfl
                rotate_left
                ·simp only[Act.put,sZ0,sZ1,sZ2,i64_w,i32_w];rfl
                refine pure_ (i:=15) (N:=some 83) (v:=?_) (a':=?_) #[true,true,false,false,true,true,false,false,false,true,true,false,false,false,true,true,false,false,false,false,false,false,false,false,false,false,false,false,false,false,false,false,false,false,false,false,false,false,false] rfl rfl (any_of HT_.out (by kernel_rfl)) (fun _ _ _ h=>h) (Or.inl ⟨by rfl,?_⟩) ?_ ?_
                rotate_left
                ·intro w';go_simp;with_reducible rfl
                rotate_left
                ·simp only[Act.put,sZ0,sZ1,sZ2,i64_w,i32_w];rfl
                refine pure_ (i:=17) (N:=some 85) (v:=?_) (a':=?_) #[true,true,false,false,true,true,false,false,false,true,true,false,false,false,true,true,false,true,false,false,false,false,false,false,false,false,false,false,false,false,false,false,false,false,false,false,false,false,false] rfl rfl (any_of HT_.out (by kernel_rfl)) (fun _ _ _ h=>h) (Or.inl ⟨by rfl,?_⟩) ?_ ?_
                rotate_left
                ·intro w';go_simp;with_reducible rfl
                rotate_left
                ·simp only[Act.put,sZ0,sZ1,sZ2,i64_w,i32_w];rfl
                refine pure_ (i:=18) (N:=some 86) (v:=?_) (a':=?_) #[true,true,false,false,true,true,false,false,false,true,true,false,false,false,true,true,false,true,true,false,false,false,false,false,false,false,false,false,false,false,false,false,false,false,false,false,false,false,false] rfl rfl (any_of HT_.out (by kernel_rfl)) (fun _ _ _ h=>h) (Or.inl ⟨by rfl,?_⟩) ?_ ?_
                rotate_left
                ·intro w';go_simp;with_reducible rfl
                rotate_left
                ·simp only[Act.put,sZ0,sZ1,sZ2,i64_w,i32_w];rfl
                refine pure_ (i:=21) (N:=some 89) (v:=?_) (a':=?_) #[true,true,false,false,true,true,false,false,false,true,true,false,false,false,true,true,false,true,true,false,false,true,false,false,false,false,false,false,false,false,false,false,false,false,false,false,false,false,false] rfl rfl (any_of HT_.out (by kernel_rfl)) (fun _ _ _ h=>h) (Or.inl ⟨by rfl,?_⟩) ?_ ?_
                rotate_left
                ·intro w';go_simp;with_reducible rfl
                rotate_left
                ·simp only[Act.put,sZ0,sZ1,sZ2,i64_w,i32_w];rfl
                refine pure_ (i:=22) (N:=some 90) (v:=?_) (a':=?_) #[true,true,false,false,true,true,false,false,false,true,true,false,false,false,true,true,false,true,true,false,false,true,true,false,false,false,false,false,false,false,false,false,false,false,false,false,false,false,false] rfl rfl (any_of HT_.out (by kernel_rfl)) (fun _ _ _ h=>h) (Or.inl ⟨by rfl,?_⟩) ?_ ?_
                rotate_left
                ·intro w';go_simp;with_reducible rfl
                rotate_left
                ·simp only[Act.put,sZ0,sZ1,sZ2,i64_w,i32_w];rfl
                refine pure_ (i:=24) (N:=some 92) (v:=?_) (a':=?_) #[true,true,false,false,true,true,false,false,false,true,true,false,false,false,true,true,false,true,true,false,false,true,true,false,true,false,false,false,false,false,false,false,false,false,false,false,false,false,false] rfl rfl (any_of HT_.out (by kernel_rfl)) (fun _ _ _ h=>h) (Or.inl ⟨by rfl,?_⟩) ?_ ?_
                rotate_left
                ·intro w';go_simp;with_reducible rfl
                rotate_left
                ·simp only[Act.put,sZ0,sZ1,sZ2,i64_w,i32_w];rfl
                refine pure_ (i:=25) (N:=some 93) (v:=?_) (a':=?_) #[true,true,false,false,true,true,false,false,false,true,true,false,false,false,true,true,false,true,true,false,false,true,true,false,true,true,false,false,false,false,false,false,false,false,false,false,false,false,false] rfl rfl (any_of HT_.out (by kernel_rfl)) (fun _ _ _ h=>h) (Or.inl ⟨by rfl,?_⟩) ?_ ?_
                rotate_left
                ·intro w';go_simp;with_reducible rfl
                rotate_left
                ·simp only[Act.put,sZ0,sZ1,sZ2,i64_w,i32_w];rfl
                refine pure_ (i:=29) (N:=some 97) (v:=?_) (a':=?_) #[true,true,false,false,true,true,false,false,false,true,true,false,false,false,true,true,false,true,true,false,false,true,true,false,true,true,false,false,false,true,false,false,false,false,false,false,false,false,false] rfl rfl (any_of HT_.out (by kernel_rfl)) (fun _ _ _ h=>h) (Or.inl ⟨by rfl,?_⟩) ?_ ?_
                rotate_left
                ·intro w';go_simp;with_reducible rfl
                rotate_left
                ·simp only[Act.put,sZ0,sZ1,sZ2,i64_w,i32_w];rfl
                refine pure_ (i:=30) (N:=some 98) (v:=?_) (a':=?_) #[true,true,false,false,true,true,false,false,false,true,true,false,false,false,true,true,false,true,true,false,false,true,true,false,true,true,false,false,false,true,true,false,false,false,false,false,false,false,false] rfl rfl (any_of HT_.out (by kernel_rfl)) (fun _ _ _ h=>h) (Or.inl ⟨by rfl,?_⟩) ?_ ?_
                rotate_left
                ·intro w';go_simp;with_reducible rfl
                rotate_left
                ·simp only[Act.put,sZ0,sZ1,sZ2,i64_w,i32_w];rfl
                refine pure_ (i:=32) (N:=some 100) (v:=?_) (a':=?_) #[true,true,false,false,true,true,false,false,false,true,true,false,false,false,true,true,false,true,true,false,false,true,true,false,true,true,false,false,false,true,true,false,true,false,false,false,false,false,false] rfl rfl (any_of HT_.out (by kernel_rfl)) (fun _ _ _ h=>h) (Or.inl ⟨by rfl,?_⟩) ?_ ?_
                rotate_left
                ·intro w';go_simp;with_reducible rfl
                rotate_left
                ·simp only[Act.put,sZ0,sZ1,sZ2,i64_w,i32_w];rfl
                refine pure_ (i:=33) (N:=some 101) (v:=?_) (a':=?_) #[true,true,false,false,true,true,false,false,false,true,true,false,false,false,true,true,false,true,true,false,false,true,true,false,true,true,false,false,false,true,true,false,true,true,false,false,false,false,false] rfl rfl (any_of HT_.out (by kernel_rfl)) (fun _ _ _ h=>h) (Or.inl ⟨by rfl,?_⟩) ?_ ?_
                rotate_left
                ·intro w';go_simp;with_reducible rfl
                rotate_left
                ·simp only[Act.put,sZ0,sZ1,sZ2,i64_w,i32_w];rfl
                refine take_ (i:=2) (N:=some 70) (v:=?_) (a':=?_) #[true,true,true,false,true,true,false,false,false,true,true,false,false,false,true,true,false,true,true,false,false,true,true,false,true,true,false,false,false,true,true,false,true,true,false,false,false,false,false] rfl rfl (take_ofW HT_.out HW_.out (by kernel_rfl)) (fun _ _ _ h=>h) (Or.inl ⟨by rfl,?_⟩) hHeld ?_ ?_
                rotate_left
                ·rintro w' ⟨s0,s1,s2,s3,s4,s5,s6,s7,s8⟩
                 go_simp;with_reducible rfl
                rotate_left
                ·simp only[Act.put,sZ0,sZ1,sZ2,i64_w,i32_w];rfl
                refine take_ (i:=6) (N:=some 74) (v:=?_) (a':=?_) #[true,true,true,false,true,true,true,false,false,true,true,false,false,false,true,true,false,true,true,false,false,true,true,false,true,true,false,false,false,true,true,false,true,true,false,false,false,false,false] rfl rfl (take_ofW HT_.out HW_.out (by kernel_rfl)) (fun _ _ _ h=>h) (Or.inl ⟨by rfl,?_⟩) hHeld ?_ ?_
                rotate_left
                ·rintro w' ⟨s0,s1,s2,s3,s4,s5,s6,s7,s8⟩
                 go_simp;with_reducible rfl
                rotate_left
                ·simp only[Act.put,sZ0,sZ1,sZ2,i64_w,i32_w];rfl
                refine take_ (i:=11) (N:=some 79) (v:=?_) (a':=?_) #[true,true,true,false,true,true,true,false,false,true,true,true,false,false,true,true,false,true,true,false,false,true,true,false,true,true,false,false,false,true,true,false,true,true,false,false,false,false,false] rfl rfl (take_ofW HT_.out HW_.out (by kernel_rfl)) (fun _ _ _ h=>h) (Or.inl ⟨by rfl,?_⟩) hHeld ?_ ?_
                rotate_left
                ·rintro w' ⟨s0,s1,s2,s3,s4,s5,s6,s7,s8⟩
                 go_simp;with_reducible rfl
                rotate_left
                ·simp only[Act.put,sZ0,sZ1,sZ2,i64_w,i32_w];rfl
                refine take_ (i:=16) (N:=some 84) (v:=?_) (a':=?_) #[true,true,true,false,true,true,true,false,false,true,true,true,false,false,true,true,true,true,true,false,false,true,true,false,true,true,false,false,false,true,true,false,true,true,false,false,false,false,false] rfl rfl (take_ofW HT_.out HW_.out (by kernel_rfl)) (fun _ _ _ h=>h) (Or.inl ⟨by rfl,?_⟩) hHeld ?_ ?_
                rotate_left
                ·rintro w' ⟨s0,s1,s2,s3,s4,s5,s6,s7,s8⟩
                 go_simp;with_reducible rfl
                rotate_left
                ·simp only[Act.put,sZ0,sZ1,sZ2,i64_w,i32_w];rfl
                refine take_ (i:=19) (N:=some 87) (v:=?_) (a':=?_) #[true,true,true,false,true,true,true,false,false,true,true,true,false,false,true,true,true,true,true,true,false,true,true,false,true,true,false,false,false,true,true,false,true,true,false,false,false,false,false] rfl rfl (take_ofW HT_.out HW_.out (by kernel_rfl)) (fun _ _ _ h=>h) (Or.inl ⟨by rfl,?_⟩) hHeld ?_ ?_
                rotate_left
                ·rintro w' ⟨s0,s1,s2,s3,s4,s5,s6,s7,s8⟩
                 go_simp;with_reducible rfl
                rotate_left
                ·simp only[Act.put,sZ0,sZ1,sZ2,i64_w,i32_w];rfl
                refine pure_ (i:=20) (N:=some 88) (v:=?_) (a':=?_) #[true,true,true,false,true,true,true,false,false,true,true,true,false,false,true,true,true,true,true,true,true,true,true,false,true,true,false,false,false,true,true,false,true,true,false,false,false,false,false] rfl rfl (any_of HT_.out (by kernel_rfl)) (fun _ _ _ h=>h) (Or.inl ⟨by rfl,?_⟩) ?_ ?_
                rotate_left
                ·intro w';go_simp;with_reducible rfl
                rotate_left
                ·simp only[Act.put,sZ0,sZ1,sZ2,i64_w,i32_w];rfl
                refine take_ (i:=23) (N:=some 91) (v:=?_) (a':=?_) #[true,true,true,false,true,true,true,false,false,true,true,true,false,false,true,true,true,true,true,true,true,true,true,true,true,true,false,false,false,true,true,false,true,true,false,false,false,false,false] rfl rfl (take_ofW HT_.out HW_.out (by kernel_rfl)) (fun _ _ _ h=>h) (Or.inl ⟨by rfl,?_⟩) hHeld ?_ ?_
                rotate_left
                ·rintro w' ⟨s0,s1,s2,s3,s4,s5,s6,s7,s8⟩
                 go_simp;with_reducible rfl
                rotate_left
                ·simp only[Act.put,sZ0,sZ1,sZ2,i64_w,i32_w];rfl
                refine take_ (i:=26) (N:=some 94) (v:=?_) (a':=?_) #[true,true,true,false,true,true,true,false,false,true,true,true,false,false,true,true,true,true,true,true,true,true,true,true,true,true,true,false,false,true,true,false,true,true,false,false,false,false,false] rfl rfl (take_ofW HT_.out HW_.out (by kernel_rfl)) (fun _ _ _ h=>h) (Or.inl ⟨by rfl,?_⟩) hHeld ?_ ?_
                rotate_left
                ·rintro w' ⟨s0,s1,s2,s3,s4,s5,s6,s7,s8⟩
                 go_simp;with_reducible rfl
                rotate_left
                ·simp only[Act.put,sZ0,sZ1,sZ2,i64_w,i32_w];rfl
                refine pure_ (i:=27) (N:=some 95) (v:=?_) (a':=?_) #[true,true,true,false,true,true,true,false,false,true,true,true,false,false,true,true,true,true,true,true,true,true,true,true,true,true,true,true,false,true,true,false,true,true,false,false,false,false,false] rfl rfl (any_of HT_.out (by kernel_rfl)) (fun _ _ _ h=>h) (Or.inl ⟨by rfl,?_⟩) ?_ ?_
                rotate_left
                ·intro w';go_simp;with_reducible rfl
                rotate_left
                ·simp only[Act.put,sZ0,sZ1,sZ2,i64_w,i32_w];rfl
                refine pure_ (i:=28) (N:=some 96) (v:=?_) (a':=?_) #[true,true,true,false,true,true,true,false,false,true,true,true,false,false,true,true,true,true,true,true,true,true,true,true,true,true,true,true,true,true,true,false,true,true,false,false,false,false,false] rfl rfl (any_of HT_.out (by kernel_rfl)) (fun _ _ _ h=>h) (Or.inl ⟨by rfl,?_⟩) ?_ ?_
                rotate_left
                ·intro w';go_simp;with_reducible rfl
                rotate_left
                ·simp only[Act.put,sZ0,sZ1,sZ2,i64_w,i32_w];rfl
                refine take_ (i:=31) (N:=some 99) (v:=?_) (a':=?_) #[true,true,true,false,true,true,true,false,false,true,true,true,false,false,true,true,true,true,true,true,true,true,true,true,true,true,true,true,true,true,true,true,true,true,false,false,false,false,false] rfl rfl (take_ofW HT_.out HW_.out (by kernel_rfl)) (fun _ _ _ h=>h) (Or.inl ⟨by rfl,?_⟩) hHeld ?_ ?_
                rotate_left
                ·rintro w' ⟨s0,s1,s2,s3,s4,s5,s6,s7,s8⟩
                 go_simp;with_reducible rfl
                rotate_left
                ·simp only[Act.put,sZ0,sZ1,sZ2,i64_w,i32_w];rfl
                refine take_ (i:=34) (N:=some 102) (v:=?_) (a':=?_) #[true,true,true,false,true,true,true,false,false,true,true,true,false,false,true,true,true,true,true,true,true,true,true,true,true,true,true,true,true,true,true,true,true,true,true,false,false,false,false] rfl rfl (take_ofW HT_.out HW_.out (by kernel_rfl)) (fun _ _ _ h=>h) (Or.inl ⟨by rfl,?_⟩) hHeld ?_ ?_
                rotate_left
                ·rintro w' ⟨s0,s1,s2,s3,s4,s5,s6,s7,s8⟩
                 go_simp;with_reducible rfl
                rotate_left
                ·simp only[Act.put,sZ0,sZ1,sZ2,i64_w,i32_w];rfl
                refine pure_ (i:=35) (N:=some 103) (v:=?_) (a':=?_) #[true,true,true,false,true,true,true,false,false,true,true,true,false,false,true,true,true,true,true,true,true,true,true,true,true,true,true,true,true,true,true,true,true,true,true,true,false,false,false] rfl rfl (any_of HT_.out (by kernel_rfl)) (fun _ _ _ h=>h) (Or.inl ⟨by rfl,?_⟩) ?_ ?_
                rotate_left
                ·intro w';go_simp;with_reducible rfl
                rotate_left
                ·simp only[Act.put,sZ0,sZ1,sZ2,i64_w,i32_w];rfl
                refine pure_ (i:=36) (N:=some 104) (v:=?_) (a':=?_) #[true,true,true,false,true,true,true,false,false,true,true,true,false,false,true,true,true,true,true,true,true,true,true,true,true,true,true,true,true,true,true,true,true,true,true,true,true,false,false] rfl rfl (any_of HT_.out (by kernel_rfl)) (fun _ _ _ h=>h) (Or.inl ⟨by rfl,?_⟩) ?_ ?_
                rotate_left
                ·intro w';go_simp;with_reducible rfl
                rotate_left
                ·simp only[Act.put,sZ0,sZ1,sZ2,i64_w,i32_w];rfl
                refine one_ (i:=3) (N:=some 71) #[true,true,true,true,true,true,true,false,false,true,true,true,false,false,true,true,true,true,true,true,true,true,true,true,true,true,true,true,true,true,true,true,true,true,true,true,true,false,false] rfl rfl (one_of HT_.out (by kernel_rfl)) (by decide) (fun K hK=>?_)
                refine goes_ Try.func102 (by kernel_rfl) rfl #[.int .u32 (rd x7_1 0),.int .i64 2] (by rfl) rfl rfl (by (try simp only[List.map_toArray,List.map_cons,List.map_nil]);first | done | rfl | (simp only[List.length_drop,List.length_take];rfl)) ?_
                with_reducible refine (nepentheref02_rotr.calls k1 (rd x7_1 0) 2 t337 _ A23.out).mono ?_
                rintro e w' ⟨rfl,⟨nd,rfl⟩⟩
                refine ⟨_,rfl,?_⟩
                refine hK.out _ _ ⟨hHeld.1,hHeld.2.1,hHeld.2.2.1,hHeld.2.2.2.1,hHeld.2.2.2.2.1,hHeld.2.2.2.2.2.1,hHeld.2.2.2.2.2.2.1,hHeld.2.2.2.2.2.2.2.1,hHeld.2.2.2.2.2.2.2.2⟩ (fun hHeld=>?_)
                clear hK K;refine norm_ (a':=?_) ?_ ?_
                rotate_left
                ·show Act.put _ (some 71) _=_
                 simp only[Act.put,sZ0,sZ1,sZ2,i64_w,i32_w];rfl
                refine one_ (i:=7) (N:=some 75) #[true,true,true,true,true,true,true,true,false,true,true,true,false,false,true,true,true,true,true,true,true,true,true,true,true,true,true,true,true,true,true,true,true,true,true,true,true,false,false] rfl rfl (one_of HT_.out (by kernel_rfl)) (by decide) (fun K hK=>?_)
                refine goes_ Try.func102 (by kernel_rfl) rfl #[.int .u32 (rd x7_1 0),.int .i64 13] (by rfl) rfl rfl (by (try simp only[List.map_toArray,List.map_cons,List.map_nil]);first | done | rfl | (simp only[List.length_drop,List.length_take];rfl)) ?_
                with_reducible refine (nepentheref02_rotr.calls k1 (rd x7_1 0) 13 t339 _ A24.out).mono ?_
                rintro e w' ⟨rfl,⟨nd,rfl⟩⟩
                refine ⟨_,rfl,?_⟩
                refine hK.out _ _ ⟨hHeld.1,hHeld.2.1,hHeld.2.2.1,hHeld.2.2.2.1,hHeld.2.2.2.2.1,hHeld.2.2.2.2.2.1,hHeld.2.2.2.2.2.2.1,hHeld.2.2.2.2.2.2.2.1,hHeld.2.2.2.2.2.2.2.2⟩ (fun hHeld=>?_)
                clear hK K;refine norm_ (a':=?_) ?_ ?_
                rotate_left
                ·show Act.put _ (some 75) _=_
                 simp only[Act.put,sZ0,sZ1,sZ2,i64_w,i32_w];rfl
                refine pure_ (i:=8) (N:=some 76) (v:=?_) (a':=?_) #[true,true,true,true,true,true,true,true,true,true,true,true,false,false,true,true,true,true,true,true,true,true,true,true,true,true,true,true,true,true,true,true,true,true,true,true,true,false,false] rfl rfl (any_of HT_.out (by kernel_rfl)) (fun _ _ _ h=>h) (Or.inl ⟨by rfl,?_⟩) ?_ ?_
                rotate_left
                ·intro w';go_simp;with_reducible rfl
                rotate_left
                ·simp only[Act.put,sZ0,sZ1,sZ2,i64_w,i32_w];rfl
                refine one_ (i:=12) (N:=some 80) #[true,true,true,true,true,true,true,true,true,true,true,true,true,false,true,true,true,true,true,true,true,true,true,true,true,true,true,true,true,true,true,true,true,true,true,true,true,false,false] rfl rfl (one_of HT_.out (by kernel_rfl)) (by decide) (fun K hK=>?_)
                refine goes_ Try.func102 (by kernel_rfl) rfl #[.int .u32 (rd x7_1 0),.int .i64 22] (by rfl) rfl rfl (by (try simp only[List.map_toArray,List.map_cons,List.map_nil]);first | done | rfl | (simp only[List.length_drop,List.length_take];rfl)) ?_
                with_reducible refine (nepentheref02_rotr.calls k1 (rd x7_1 0) 22 t341 _ A25.out).mono ?_
                rintro e w' ⟨rfl,⟨nd,rfl⟩⟩
                refine ⟨_,rfl,?_⟩
                refine hK.out _ _ ⟨hHeld.1,hHeld.2.1,hHeld.2.2.1,hHeld.2.2.2.1,hHeld.2.2.2.2.1,hHeld.2.2.2.2.2.1,hHeld.2.2.2.2.2.2.1,hHeld.2.2.2.2.2.2.2.1,hHeld.2.2.2.2.2.2.2.2⟩ (fun hHeld=>?_)
                clear hK K;refine norm_ (a':=?_) ?_ ?_
                rotate_left
                ·show Act.put _ (some 80) _=_
                 simp only[Act.put,sZ0,sZ1,sZ2,i64_w,i32_w];rfl
                refine pure_ (i:=13) (N:=some 81) (v:=?_) (a':=?_) #[true,true,true,true,true,true,true,true,true,true,true,true,true,true,true,true,true,true,true,true,true,true,true,true,true,true,true,true,true,true,true,true,true,true,true,true,true,false,false] rfl rfl (any_of HT_.out (by kernel_rfl)) (fun _ _ _ h=>h) (Or.inl ⟨by rfl,?_⟩) ?_ ?_
                rotate_left
                ·intro w';go_simp;with_reducible rfl
                rotate_left
                ·simp only[Act.put,sZ0,sZ1,sZ2,i64_w,i32_w];rfl
                refine pure_ (i:=37) (N:=some 105) (v:=?_) (a':=?_) #[true,true,true,true,true,true,true,true,true,true,true,true,true,true,true,true,true,true,true,true,true,true,true,true,true,true,true,true,true,true,true,true,true,true,true,true,true,true,false] rfl rfl (any_of HT_.out (by kernel_rfl)) (fun _ _ _ h=>h) (Or.inl ⟨by rfl,?_⟩) ?_ ?_
                rotate_left
                ·intro w';go_simp;with_reducible rfl
                rotate_left
                ·simp only[Act.put,sZ0,sZ1,sZ2,i64_w,i32_w];rfl
                refine pure_ (i:=38) (N:=some 10) (v:=?_) (a':=?_) #[true,true,true,true,true,true,true,true,true,true,true,true,true,true,true,true,true,true,true,true,true,true,true,true,true,true,true,true,true,true,true,true,true,true,true,true,true,true,true] rfl rfl (any_of HT_.out (by kernel_rfl)) (fun _ _ _ h=>h) (Or.inl ⟨by rfl,?_⟩) ?_ ?_
                rotate_left
                ·intro w';go_simp;with_reducible rfl
                rotate_left
                ·simp only[Act.put,sZ0,sZ1,sZ2,i64_w,i32_w];rfl
                refine done_ (done_of HT_.out (by kernel_rfl)) ?_
                try go_wp2
                (try (rw[drewN_self w33];generalize hq_:World.drewN w33 _=w33;have n0_:Aside0 (Kd.R (Kd.int .u32) 87 w33 w.heap.size (fun k_=>some k_≠(.slice (some ad334) t314.length co31:Value).ownBlock∧some k_≠(.slice (some ad323) x7_1.length co30:Value).ownBlock) (.slice (some ad335) t311.length co32) t311):=⟨by rw[← hq_];exact (by (with_reducible repeat (first | apply Kd.R_alloc | apply Kd.R_drewN | apply Kd.R_drew));exact HO_5.out)⟩;have n1_:Aside0 (Kd.R (Kd.int .u32) 87 w33 w.heap.size (fun k_=>some k_≠(.slice (some ad335) t311.length co32:Value).ownBlock∧some k_≠(.slice (some ad323) x7_1.length co30:Value).ownBlock) (.slice (some ad334) t314.length co31) t314):=⟨by rw[← hq_];exact (by (with_reducible repeat (first | apply Kd.R_alloc | apply Kd.R_drewN | apply Kd.R_drew));exact HO_6.out)⟩;have n2_:Aside0 (Kd.R (Kd.int .u32) 87 w33 w.heap.size (fun k_=>some k_≠(.slice (some ad335) t311.length co32:Value).ownBlock∧some k_≠(.slice (some ad334) t314.length co31:Value).ownBlock) (.slice (some ad323) x7_1.length co30) x7_1):=⟨by rw[← hq_];exact (by (with_reducible repeat (first | apply Kd.R_alloc | apply Kd.R_drewN | apply Kd.R_drew));exact HO_7.out)⟩;have n3_:Aside0 (Below w.heap.size w w33):=⟨by rw[← hq_];exact (by repeat (first | (with_reducible first | exact HB.out | apply below_alloc | apply pw_below_drewN | apply below_drew1) | exact HB.out))⟩;clear HO_5 HO_6 HO_7 HB hq_;have HO_5:=n0_;have HO_6:=n1_;have HO_7:=n2_;have HB:=n3_;clear n0_ n1_ n2_ n3_))
                have n0_:=Aside0.mk (Kd.R_drew HO_5.out)
                have n1_:=Aside0.mk (Kd.R_drew HO_6.out)
                have n2_:=Aside0.mk (Kd.R_drew HO_7.out)
                have n3_:=Aside0.mk (below_drew1 HB.out)
                clear HO_5
                clear HO_6
                clear HO_7
                clear HB
                have HO_5:=n0_
                have HO_6:=n1_
                have HO_7:=n2_
                have HB:=n3_
                clear n0_ n1_ n2_ n3_
                have p348:0≤(0:Int):=(by omega)
                have q348:0<(x7_1.length:Int):=of_decide_eq_true (by first | (with_reducible assumption) | assumption)
                obtain ⟨ad348,e348,hx348_0⟩:=Kd.at_int (Kd.R_reads' HO_7.out).2.2 0 p348 q348
                obtain rfl:ad323=ad348:=(by injection e348)
                have qi348:(0<x7_1.length)=True:=eq_true (by omega)
                (try rw[show ((0:Int)).toNat=0 from rfl] at hx348_0)
                (try rw[Addr.add_zero'] at hx348_0)
                replace p348:=eq_true p348
                replace q348:=eq_true q348
                have p349:0≤(1:Int):=(by omega)
                have q349:1<(x7_1.length:Int):=of_decide_eq_true (by first | (with_reducible assumption) | assumption)
                obtain ⟨ad349,e349,hx349_0⟩:=Kd.at_int (Kd.R_reads' HO_7.out).2.2 1 p349 q349
                obtain rfl:ad323=ad349:=(by injection e349)
                (try simp only[show (1:Int).toNat=1 from rfl,Nat.reduceMul,Nat.reduceEqDiff,Go.Addr.add,↓reduceIte] at hx349_0)
                have qi349:(1<x7_1.length)=True:=eq_true (by omega)
                (try rw[show ((1:Int)).toNat=1 from rfl] at hx349_0)
                replace p349:=eq_true p349
                replace q349:=eq_true q349
                have p350:0≤(2:Int):=(by omega)
                have q350:2<(x7_1.length:Int):=of_decide_eq_true (by first | (with_reducible assumption) | assumption)
                obtain ⟨ad350,e350,hx350_0⟩:=Kd.at_int (Kd.R_reads' HO_7.out).2.2 2 p350 q350
                obtain rfl:ad323=ad350:=(by injection e350)
                (try simp only[show (2:Int).toNat=2 from rfl,Nat.reduceMul,Nat.reduceEqDiff,Go.Addr.add,↓reduceIte] at hx350_0)
                have qi350:(2<x7_1.length)=True:=eq_true (by omega)
                (try rw[show ((2:Int)).toNat=2 from rfl] at hx350_0)
                replace p350:=eq_true p350
                replace q350:=eq_true q350
                have p351:0≤(3:Int):=(by omega)
                have q351:3<(x7_1.length:Int):=of_decide_eq_true (by first | (with_reducible assumption) | assumption)
                obtain ⟨ad351,e351,hx351_0⟩:=Kd.at_int (Kd.R_reads' HO_7.out).2.2 3 p351 q351
                obtain rfl:ad323=ad351:=(by injection e351)
                (try simp only[show (3:Int).toNat=3 from rfl,Nat.reduceMul,Nat.reduceEqDiff,Go.Addr.add,↓reduceIte] at hx351_0)
                have qi351:(3<x7_1.length)=True:=eq_true (by omega)
                (try rw[show ((3:Int)).toNat=3 from rfl] at hx351_0)
                replace p351:=eq_true p351
                replace q351:=eq_true q351
                have p352:0≤(4:Int):=(by omega)
                have q352:4<(x7_1.length:Int):=of_decide_eq_true (by first | (with_reducible assumption) | assumption)
                obtain ⟨ad352,e352,hx352_0⟩:=Kd.at_int (Kd.R_reads' HO_7.out).2.2 4 p352 q352
                obtain rfl:ad323=ad352:=(by injection e352)
                (try simp only[show (4:Int).toNat=4 from rfl,Nat.reduceMul,Nat.reduceEqDiff,Go.Addr.add,↓reduceIte] at hx352_0)
                have qi352:(4<x7_1.length)=True:=eq_true (by omega)
                (try rw[show ((4:Int)).toNat=4 from rfl] at hx352_0)
                replace p352:=eq_true p352
                replace q352:=eq_true q352
                have p353:0≤(5:Int):=(by omega)
                have q353:5<(x7_1.length:Int):=of_decide_eq_true (by first | (with_reducible assumption) | assumption)
                obtain ⟨ad353,e353,hx353_0⟩:=Kd.at_int (Kd.R_reads' HO_7.out).2.2 5 p353 q353
                obtain rfl:ad323=ad353:=(by injection e353)
                (try simp only[show (5:Int).toNat=5 from rfl,Nat.reduceMul,Nat.reduceEqDiff,Go.Addr.add,↓reduceIte] at hx353_0)
                have qi353:(5<x7_1.length)=True:=eq_true (by omega)
                (try rw[show ((5:Int)).toNat=5 from rfl] at hx353_0)
                replace p353:=eq_true p353
                replace q353:=eq_true q353
                have p354:0≤(6:Int):=(by omega)
                have q354:6<(x7_1.length:Int):=of_decide_eq_true (by first | (with_reducible assumption) | assumption)
                obtain ⟨ad354,e354,hx354_0⟩:=Kd.at_int (Kd.R_reads' HO_7.out).2.2 6 p354 q354
                obtain rfl:ad323=ad354:=(by injection e354)
                (try simp only[show (6:Int).toNat=6 from rfl,Nat.reduceMul,Nat.reduceEqDiff,Go.Addr.add,↓reduceIte] at hx354_0)
                have qi354:(6<x7_1.length)=True:=eq_true (by omega)
                (try rw[show ((6:Int)).toNat=6 from rfl] at hx354_0)
                replace p354:=eq_true p354
                replace q354:=eq_true q354
                refine start_ (n:=28) (S:=fun w'=>w'.cell? ad323=some (.int .u32 (rd x7_1 0))∧w'.cell? ⟨ad323.block,ad323.off+1,none⟩=some (.int .u32 (rd x7_1 1))∧w'.cell? ⟨ad323.block,ad323.off+2,none⟩=some (.int .u32 (rd x7_1 2))∧w'.cell? ⟨ad323.block,ad323.off+3,none⟩=some (.int .u32 (rd x7_1 3))∧w'.cell? ⟨ad323.block,ad323.off+4,none⟩=some (.int .u32 (rd x7_1 4))∧w'.cell? ⟨ad323.block,ad323.off+5,none⟩=some (.int .u32 (rd x7_1 5))∧w'.cell? ⟨ad323.block,ad323.off+6,none⟩=some (.int .u32 (rd x7_1 6))) (ds:=[]) #[false,false,false,false,false,false,false,false,false,false,false,false,false,false,false,false,false,false,false,false,false,false,false,false,false,false,false,false] (by kernel_rfl) rfl rfl ⟨hx348_0,hx349_0,hx350_0,hx351_0,hx352_0,hx353_0,hx354_0⟩ (fun hHeld=>?_);refine with_tabW nepentheref02_Compress.tab9 nepentheref02_Compress.bits9 (fun HT_ HW_=>?_)
                generalize w33.drew=w34 at HO_5 HO_6 HO_7 HB hx348_0 hx349_0 hx350_0 hx351_0 hx352_0 hx353_0 hx354_0 hHeld ⊢
                refine pure_ (i:=0) (N:=some 106) (v:=?_) (a':=?_) #[true,false,false,false,false,false,false,false,false,false,false,false,false,false,false,false,false,false,false,false,false,false,false,false,false,false,false,false] rfl rfl (any_of HT_.out (by kernel_rfl)) (fun _ _ _ h=>h) (Or.inl ⟨by rfl,?_⟩) ?_ ?_
                rotate_left
                ·intro w';go_simp;with_reducible rfl
                rotate_left
                ·simp only[Act.put,sZ0,sZ1,sZ2,i64_w,i32_w];rfl
                refine pure_ (i:=1) (N:=some 107) (v:=?_) (a':=?_) #[true,true,false,false,false,false,false,false,false,false,false,false,false,false,false,false,false,false,false,false,false,false,false,false,false,false,false,false] rfl rfl (any_of HT_.out (by kernel_rfl)) (fun _ _ _ h=>h) (Or.inl ⟨by rfl,?_⟩) ?_ ?_
                rotate_left
                ·intro w';go_simp;with_reducible rfl
                rotate_left
                ·simp only[Act.put,sZ0,sZ1,sZ2,i64_w,i32_w];rfl
                refine pure_ (i:=2) (N:=some 108) (v:=?_) (a':=?_) #[true,true,true,false,false,false,false,false,false,false,false,false,false,false,false,false,false,false,false,false,false,false,false,false,false,false,false,false] rfl rfl (any_of HT_.out (by kernel_rfl)) (fun _ _ _ h=>h) (Or.inl ⟨by rfl,?_⟩) ?_ ?_
                rotate_left
                ·intro w';go_simp;with_reducible rfl
                rotate_left
                ·simp only[Act.put,sZ0,sZ1,sZ2,i64_w,i32_w];rfl
                refine pure_ (i:=3) (N:=some 109) (v:=?_) (a':=?_) #[true,true,true,true,false,false,false,false,false,false,false,false,false,false,false,false,false,false,false,false,false,false,false,false,false,false,false,false] rfl rfl (any_of HT_.out (by kernel_rfl)) (fun _ _ _ h=>h) (Or.inl ⟨by rfl,?_⟩) ?_ ?_
                rotate_left
                ·intro w';go_simp;with_reducible rfl
                rotate_left
                ·simp only[Act.put,sZ0,sZ1,sZ2,i64_w,i32_w];rfl
                refine pure_ (i:=4) (N:=some 110) (v:=?_) (a':=?_) #[true,true,true,true,true,false,false,false,false,false,false,false,false,false,false,false,false,false,false,false,false,false,false,false,false,false,false,false] rfl rfl (any_of HT_.out (by kernel_rfl)) (fun _ _ _ h=>h) (Or.inl ⟨by rfl,?_⟩) ?_ ?_
                rotate_left
                ·intro w';go_simp;with_reducible rfl
                rotate_left
                ·simp only[Act.put,sZ0,sZ1,sZ2,i64_w,i32_w];rfl
                refine pure_ (i:=6) (N:=some 112) (v:=?_) (a':=?_) #[true,true,true,true,true,false,true,false,false,false,false,false,false,false,false,false,false,false,false,false,false,false,false,false,false,false,false,false] rfl rfl (any_of HT_.out (by kernel_rfl)) (fun _ _ _ h=>h) (Or.inl ⟨by rfl,?_⟩) ?_ ?_
                rotate_left
                ·intro w';go_simp;with_reducible rfl
                rotate_left
                ·simp only[Act.put,sZ0,sZ1,sZ2,i64_w,i32_w];rfl
                refine pure_ (i:=7) (N:=some 113) (v:=?_) (a':=?_) #[true,true,true,true,true,false,true,true,false,false,false,false,false,false,false,false,false,false,false,false,false,false,false,false,false,false,false,false] rfl rfl (any_of HT_.out (by kernel_rfl)) (fun _ _ _ h=>h) (Or.inl ⟨by rfl,?_⟩) ?_ ?_
                rotate_left
                ·intro w';go_simp;with_reducible rfl
                rotate_left
                ·simp only[Act.put,sZ0,sZ1,sZ2,i64_w,i32_w];rfl
                refine pure_ (i:=9) (N:=some 115) (v:=?_) (a':=?_) #[true,true,true,true,true,false,true,true,false,true,false,false,false,false,false,false,false,false,false,false,false,false,false,false,false,false,false,false] rfl rfl (any_of HT_.out (by kernel_rfl)) (fun _ _ _ h=>h) (Or.inl ⟨by rfl,?_⟩) ?_ ?_
                rotate_left
                ·intro w';go_simp;with_reducible rfl
                rotate_left
                ·simp only[Act.put,sZ0,sZ1,sZ2,i64_w,i32_w];rfl
                refine pure_ (i:=10) (N:=some 116) (v:=?_) (a':=?_) #[true,true,true,true,true,false,true,true,false,true,true,false,false,false,false,false,false,false,false,false,false,false,false,false,false,false,false,false] rfl rfl (any_of HT_.out (by kernel_rfl)) (fun _ _ _ h=>h) (Or.inl ⟨by rfl,?_⟩) ?_ ?_
                rotate_left
                ·intro w';go_simp;with_reducible rfl
                rotate_left
                ·simp only[Act.put,sZ0,sZ1,sZ2,i64_w,i32_w];rfl
                refine pure_ (i:=12) (N:=some 118) (v:=?_) (a':=?_) #[true,true,true,true,true,false,true,true,false,true,true,false,true,false,false,false,false,false,false,false,false,false,false,false,false,false,false,false] rfl rfl (any_of HT_.out (by kernel_rfl)) (fun _ _ _ h=>h) (Or.inl ⟨by rfl,?_⟩) ?_ ?_
                rotate_left
                ·intro w';go_simp;with_reducible rfl
                rotate_left
                ·simp only[Act.put,sZ0,sZ1,sZ2,i64_w,i32_w];rfl
                refine pure_ (i:=13) (N:=some 119) (v:=?_) (a':=?_) #[true,true,true,true,true,false,true,true,false,true,true,false,true,true,false,false,false,false,false,false,false,false,false,false,false,false,false,false] rfl rfl (any_of HT_.out (by kernel_rfl)) (fun _ _ _ h=>h) (Or.inl ⟨by rfl,?_⟩) ?_ ?_
                rotate_left
                ·intro w';go_simp;with_reducible rfl
                rotate_left
                ·simp only[Act.put,sZ0,sZ1,sZ2,i64_w,i32_w];rfl
                refine pure_ (i:=15) (N:=some 121) (v:=?_) (a':=?_) #[true,true,true,true,true,false,true,true,false,true,true,false,true,true,false,true,false,false,false,false,false,false,false,false,false,false,false,false] rfl rfl (any_of HT_.out (by kernel_rfl)) (fun _ _ _ h=>h) (Or.inl ⟨by rfl,?_⟩) ?_ ?_
                rotate_left
                ·intro w';go_simp;with_reducible rfl
                rotate_left
                ·simp only[Act.put,sZ0,sZ1,sZ2,i64_w,i32_w];rfl
                refine pure_ (i:=17) (N:=some 123) (v:=?_) (a':=?_) #[true,true,true,true,true,false,true,true,false,true,true,false,true,true,false,true,false,true,false,false,false,false,false,false,false,false,false,false] rfl rfl (any_of HT_.out (by kernel_rfl)) (fun _ _ _ h=>h) (Or.inl ⟨by rfl,?_⟩) ?_ ?_
                rotate_left
                ·intro w';go_simp;with_reducible rfl
                rotate_left
                ·simp only[Act.put,sZ0,sZ1,sZ2,i64_w,i32_w];rfl
                refine pure_ (i:=18) (N:=some 124) (v:=?_) (a':=?_) #[true,true,true,true,true,false,true,true,false,true,true,false,true,true,false,true,false,true,true,false,false,false,false,false,false,false,false,false] rfl rfl (any_of HT_.out (by kernel_rfl)) (fun _ _ _ h=>h) (Or.inl ⟨by rfl,?_⟩) ?_ ?_
                rotate_left
                ·intro w';go_simp;with_reducible rfl
                rotate_left
                ·simp only[Act.put,sZ0,sZ1,sZ2,i64_w,i32_w];rfl
                refine pure_ (i:=20) (N:=some 126) (v:=?_) (a':=?_) #[true,true,true,true,true,false,true,true,false,true,true,false,true,true,false,true,false,true,true,false,true,false,false,false,false,false,false,false] rfl rfl (any_of HT_.out (by kernel_rfl)) (fun _ _ _ h=>h) (Or.inl ⟨by rfl,?_⟩) ?_ ?_
                rotate_left
                ·intro w';go_simp;with_reducible rfl
                rotate_left
                ·simp only[Act.put,sZ0,sZ1,sZ2,i64_w,i32_w];rfl
                refine pure_ (i:=21) (N:=some 127) (v:=?_) (a':=?_) #[true,true,true,true,true,false,true,true,false,true,true,false,true,true,false,true,false,true,true,false,true,true,false,false,false,false,false,false] rfl rfl (any_of HT_.out (by kernel_rfl)) (fun _ _ _ h=>h) (Or.inl ⟨by rfl,?_⟩) ?_ ?_
                rotate_left
                ·intro w';go_simp;with_reducible rfl
                rotate_left
                ·simp only[Act.put,sZ0,sZ1,sZ2,i64_w,i32_w];rfl
                refine pure_ (i:=23) (N:=some 129) (v:=?_) (a':=?_) #[true,true,true,true,true,false,true,true,false,true,true,false,true,true,false,true,false,true,true,false,true,true,false,true,false,false,false,false] rfl rfl (any_of HT_.out (by kernel_rfl)) (fun _ _ _ h=>h) (Or.inl ⟨by rfl,?_⟩) ?_ ?_
                rotate_left
                ·intro w';go_simp;with_reducible rfl
                rotate_left
                ·simp only[Act.put,sZ0,sZ1,sZ2,i64_w,i32_w];rfl
                refine pure_ (i:=24) (N:=some 130) (v:=?_) (a':=?_) #[true,true,true,true,true,false,true,true,false,true,true,false,true,true,false,true,false,true,true,false,true,true,false,true,true,false,false,false] rfl rfl (any_of HT_.out (by kernel_rfl)) (fun _ _ _ h=>h) (Or.inl ⟨by rfl,?_⟩) ?_ ?_
                rotate_left
                ·intro w';go_simp;with_reducible rfl
                rotate_left
                ·simp only[Act.put,sZ0,sZ1,sZ2,i64_w,i32_w];rfl
                refine take_ (i:=5) (N:=some 111) (v:=?_) (a':=?_) #[true,true,true,true,true,true,true,true,false,true,true,false,true,true,false,true,false,true,true,false,true,true,false,true,true,false,false,false] rfl rfl (take_ofW HT_.out HW_.out (by kernel_rfl)) (fun _ _ _ h=>h) (Or.inl ⟨by rfl,?_⟩) hHeld ?_ ?_
                rotate_left
                ·rintro w' ⟨s0,s1,s2,s3,s4,s5,s6⟩
                 go_simp;with_reducible rfl
                rotate_left
                ·simp only[Act.put,sZ0,sZ1,sZ2,i64_w,i32_w];rfl
                refine take_ (i:=8) (N:=some 114) (v:=?_) (a':=?_) #[true,true,true,true,true,true,true,true,true,true,true,false,true,true,false,true,false,true,true,false,true,true,false,true,true,false,false,false] rfl rfl (take_ofW HT_.out HW_.out (by kernel_rfl)) (fun _ _ _ h=>h) (Or.inl ⟨by rfl,?_⟩) hHeld ?_ ?_
                rotate_left
                ·rintro w' ⟨s0,s1,s2,s3,s4,s5,s6⟩
                 go_simp;with_reducible rfl
                rotate_left
                ·simp only[Act.put,sZ0,sZ1,sZ2,i64_w,i32_w];rfl
                refine take_ (i:=11) (N:=some 117) (v:=?_) (a':=?_) #[true,true,true,true,true,true,true,true,true,true,true,true,true,true,false,true,false,true,true,false,true,true,false,true,true,false,false,false] rfl rfl (take_ofW HT_.out HW_.out (by kernel_rfl)) (fun _ _ _ h=>h) (Or.inl ⟨by rfl,?_⟩) hHeld ?_ ?_
                rotate_left
                ·rintro w' ⟨s0,s1,s2,s3,s4,s5,s6⟩
                 go_simp;with_reducible rfl
                rotate_left
                ·simp only[Act.put,sZ0,sZ1,sZ2,i64_w,i32_w];rfl
                refine take_ (i:=14) (N:=some 120) (v:=?_) (a':=?_) #[true,true,true,true,true,true,true,true,true,true,true,true,true,true,true,true,false,true,true,false,true,true,false,true,true,false,false,false] rfl rfl (take_ofW HT_.out HW_.out (by kernel_rfl)) (fun _ _ _ h=>h) (Or.inl ⟨by rfl,?_⟩) hHeld ?_ ?_
                rotate_left
                ·rintro w' ⟨s0,s1,s2,s3,s4,s5,s6⟩
                 go_simp;with_reducible rfl
                rotate_left
                ·simp only[Act.put,sZ0,sZ1,sZ2,i64_w,i32_w];rfl
                refine pure_ (i:=16) (N:=some 122) (v:=?_) (a':=?_) #[true,true,true,true,true,true,true,true,true,true,true,true,true,true,true,true,true,true,true,false,true,true,false,true,true,false,false,false] rfl rfl (any_of HT_.out (by kernel_rfl)) (fun _ _ _ h=>h) (Or.inl ⟨by rfl,?_⟩) ?_ ?_
                rotate_left
                ·intro w';go_simp;with_reducible rfl
                rotate_left
                ·simp only[Act.put,sZ0,sZ1,sZ2,i64_w,i32_w];rfl
                refine take_ (i:=19) (N:=some 125) (v:=?_) (a':=?_) #[true,true,true,true,true,true,true,true,true,true,true,true,true,true,true,true,true,true,true,true,true,true,false,true,true,false,false,false] rfl rfl (take_ofW HT_.out HW_.out (by kernel_rfl)) (fun _ _ _ h=>h) (Or.inl ⟨by rfl,?_⟩) hHeld ?_ ?_
                rotate_left
                ·rintro w' ⟨s0,s1,s2,s3,s4,s5,s6⟩
                 go_simp;with_reducible rfl
                rotate_left
                ·simp only[Act.put,sZ0,sZ1,sZ2,i64_w,i32_w];rfl
                refine take_ (i:=22) (N:=some 128) (v:=?_) (a':=?_) #[true,true,true,true,true,true,true,true,true,true,true,true,true,true,true,true,true,true,true,true,true,true,true,true,true,false,false,false] rfl rfl (take_ofW HT_.out HW_.out (by kernel_rfl)) (fun _ _ _ h=>h) (Or.inl ⟨by rfl,?_⟩) hHeld ?_ ?_
                rotate_left
                ·rintro w' ⟨s0,s1,s2,s3,s4,s5,s6⟩
                 go_simp;with_reducible rfl
                rotate_left
                ·simp only[Act.put,sZ0,sZ1,sZ2,i64_w,i32_w];rfl
                refine take_ (i:=25) (N:=some 131) (v:=?_) (a':=?_) #[true,true,true,true,true,true,true,true,true,true,true,true,true,true,true,true,true,true,true,true,true,true,true,true,true,true,false,false] rfl rfl (take_ofW HT_.out HW_.out (by kernel_rfl)) (fun _ _ _ h=>h) (Or.inl ⟨by rfl,?_⟩) hHeld ?_ ?_
                rotate_left
                ·rintro w' ⟨s0,s1,s2,s3,s4,s5,s6⟩
                 go_simp;with_reducible rfl
                rotate_left
                ·simp only[Act.put,sZ0,sZ1,sZ2,i64_w,i32_w];rfl
                refine one_ (i:=26) (N:=some 132) #[true,true,true,true,true,true,true,true,true,true,true,true,true,true,true,true,true,true,true,true,true,true,true,true,true,true,true,false] rfl rfl (one_of HT_.out (by kernel_rfl)) (by decide) (fun K hK=>?_)
                refine Kd.R_lit_step (Kd.int .u32) _ 87 ?hg (N:=132) ?hd (xs:=([((((((((((rd x7_1 7)+(Go.bits .xor .u32 (Go.bits .xor .u32 t325 t327) t329)) % 4294967296)+(Go.bits .xor .u32 (Go.bits .and .u32 (rd x7_1 4) (rd x7_1 5)) (Go.bits .and .u32 ((4294967295 - (rd x7_1 4)) % 4294967296) (rd x7_1 6)))) % 4294967296)+(rd t314 x8_1)) % 4294967296)+(rd t311 x8_1)) % 4294967296)+(((Go.bits .xor .u32 (Go.bits .xor .u32 t337 t339) t341)+(Go.bits .xor .u32 (Go.bits .xor .u32 (Go.bits .and .u32 (rd x7_1 0) (rd x7_1 1)) (Go.bits .and .u32 (rd x7_1 0) (rd x7_1 2))) (Go.bits .and .u32 (rd x7_1 1) (rd x7_1 2)))) % 4294967296)) % 4294967296,rd x7_1 0,rd x7_1 1,rd x7_1 2,((rd x7_1 3)+(((((((((rd x7_1 7)+(Go.bits .xor .u32 (Go.bits .xor .u32 t325 t327) t329)) % 4294967296)+(Go.bits .xor .u32 (Go.bits .and .u32 (rd x7_1 4) (rd x7_1 5)) (Go.bits .and .u32 ((4294967295 - (rd x7_1 4)) % 4294967296) (rd x7_1 6)))) % 4294967296)+(rd t314 x8_1)) % 4294967296)+(rd t311 x8_1)) % 4294967296)) % 4294967296,rd x7_1 4,rd x7_1 5,rd x7_1 6]:List Int)) (inner:=[.int .u32 (((((((((((rd x7_1 7)+(Go.bits .xor .u32 (Go.bits .xor .u32 t325 t327) t329)) % 4294967296)+(Go.bits .xor .u32 (Go.bits .and .u32 (rd x7_1 4) (rd x7_1 5)) (Go.bits .and .u32 ((4294967295 - (rd x7_1 4)) % 4294967296) (rd x7_1 6)))) % 4294967296)+(rd t314 x8_1)) % 4294967296)+(rd t311 x8_1)) % 4294967296)+(((Go.bits .xor .u32 (Go.bits .xor .u32 t337 t339) t341)+(Go.bits .xor .u32 (Go.bits .xor .u32 (Go.bits .and .u32 (rd x7_1 0) (rd x7_1 1)) (Go.bits .and .u32 (rd x7_1 0) (rd x7_1 2))) (Go.bits .and .u32 (rd x7_1 1) (rd x7_1 2)))) % 4294967296)) % 4294967296),.int .u32 (rd x7_1 0),.int .u32 (rd x7_1 1),.int .u32 (rd x7_1 2),.int .u32 (((rd x7_1 3)+(((((((((rd x7_1 7)+(Go.bits .xor .u32 (Go.bits .xor .u32 t325 t327) t329)) % 4294967296)+(Go.bits .xor .u32 (Go.bits .and .u32 (rd x7_1 4) (rd x7_1 5)) (Go.bits .and .u32 ((4294967295 - (rd x7_1 4)) % 4294967296) (rd x7_1 6)))) % 4294967296)+(rd t314 x8_1)) % 4294967296)+(rd t311 x8_1)) % 4294967296)) % 4294967296),.int .u32 (rd x7_1 4),.int .u32 (rd x7_1 5),.int .u32 (rd x7_1 6)]) (ok:=fun _=>True) (okp:=fun _=>True) ?hr ?hp (fun _ hk=>hk) trivial (Below.refl _ _) (Nat.le_refl _) (by simp) ?_;(case hd=>rfl);(case hg=>rfl);(case hr=>first | (go_simp;done) | (go_simp;rfl) | (go_simp;simp only[IntKind.wrap_u32,Int.emod_add_emod,Int.add_emod_emod]));(case hp=>exact (Reps.one (show Kd.M (Kd.int .u32) _ _ _ (((((((((((rd x7_1 7)+(Go.bits .xor .u32 (Go.bits .xor .u32 t325 t327) t329)) % 4294967296)+(Go.bits .xor .u32 (Go.bits .and .u32 (rd x7_1 4) (rd x7_1 5)) (Go.bits .and .u32 ((4294967295 - (rd x7_1 4)) % 4294967296) (rd x7_1 6)))) % 4294967296)+(rd t314 x8_1)) % 4294967296)+(rd t311 x8_1)) % 4294967296)+(((Go.bits .xor .u32 (Go.bits .xor .u32 t337 t339) t341)+(Go.bits .xor .u32 (Go.bits .xor .u32 (Go.bits .and .u32 (rd x7_1 0) (rd x7_1 1)) (Go.bits .and .u32 (rd x7_1 0) (rd x7_1 2))) (Go.bits .and .u32 (rd x7_1 1) (rd x7_1 2)))) % 4294967296)) % 4294967296) [.int .u32 (((((((((((rd x7_1 7)+(Go.bits .xor .u32 (Go.bits .xor .u32 t325 t327) t329)) % 4294967296)+(Go.bits .xor .u32 (Go.bits .and .u32 (rd x7_1 4) (rd x7_1 5)) (Go.bits .and .u32 ((4294967295 - (rd x7_1 4)) % 4294967296) (rd x7_1 6)))) % 4294967296)+(rd t314 x8_1)) % 4294967296)+(rd t311 x8_1)) % 4294967296)+(((Go.bits .xor .u32 (Go.bits .xor .u32 t337 t339) t341)+(Go.bits .xor .u32 (Go.bits .xor .u32 (Go.bits .and .u32 (rd x7_1 0) (rd x7_1 1)) (Go.bits .and .u32 (rd x7_1 0) (rd x7_1 2))) (Go.bits .and .u32 (rd x7_1 1) (rd x7_1 2)))) % 4294967296)) % 4294967296)] from rfl) (Reps.one (show Kd.M (Kd.int .u32) _ _ _ (rd x7_1 0) [.int .u32 (rd x7_1 0)] from rfl) (Reps.one (show Kd.M (Kd.int .u32) _ _ _ (rd x7_1 1) [.int .u32 (rd x7_1 1)] from rfl) (Reps.one (show Kd.M (Kd.int .u32) _ _ _ (rd x7_1 2) [.int .u32 (rd x7_1 2)] from rfl) (Reps.one (show Kd.M (Kd.int .u32) _ _ _ (((rd x7_1 3)+(((((((((rd x7_1 7)+(Go.bits .xor .u32 (Go.bits .xor .u32 t325 t327) t329)) % 4294967296)+(Go.bits .xor .u32 (Go.bits .and .u32 (rd x7_1 4) (rd x7_1 5)) (Go.bits .and .u32 ((4294967295 - (rd x7_1 4)) % 4294967296) (rd x7_1 6)))) % 4294967296)+(rd t314 x8_1)) % 4294967296)+(rd t311 x8_1)) % 4294967296)) % 4294967296) [.int .u32 (((rd x7_1 3)+(((((((((rd x7_1 7)+(Go.bits .xor .u32 (Go.bits .xor .u32 t325 t327) t329)) % 4294967296)+(Go.bits .xor .u32 (Go.bits .and .u32 (rd x7_1 4) (rd x7_1 5)) (Go.bits .and .u32 ((4294967295 - (rd x7_1 4)) % 4294967296) (rd x7_1 6)))) % 4294967296)+(rd t314 x8_1)) % 4294967296)+(rd t311 x8_1)) % 4294967296)) % 4294967296)] from rfl) (Reps.one (show Kd.M (Kd.int .u32) _ _ _ (rd x7_1 4) [.int .u32 (rd x7_1 4)] from rfl) (Reps.one (show Kd.M (Kd.int .u32) _ _ _ (rd x7_1 5) [.int .u32 (rd x7_1 5)] from rfl) (Reps.one (show Kd.M (Kd.int .u32) _ _ _ (rd x7_1 6) [.int .u32 (rd x7_1 6)] from rfl) (Reps.none _ _))))))))))
                intro v356 w35 ho36 hb hg_ hnew_
                have HS0_:=(hb.cell (World.block_lt_of_cell? _ _ (hHeld.1))).trans (hHeld.1)
                have HS1_:=(hb.cell (World.block_lt_of_cell? _ _ (hHeld.2.1))).trans (hHeld.2.1)
                have HS2_:=(hb.cell (World.block_lt_of_cell? _ _ (hHeld.2.2.1))).trans (hHeld.2.2.1)
                have HS3_:=(hb.cell (World.block_lt_of_cell? _ _ (hHeld.2.2.2.1))).trans (hHeld.2.2.2.1)
                have HS4_:=(hb.cell (World.block_lt_of_cell? _ _ (hHeld.2.2.2.2.1))).trans (hHeld.2.2.2.2.1)
                have HS5_:=(hb.cell (World.block_lt_of_cell? _ _ (hHeld.2.2.2.2.2.1))).trans (hHeld.2.2.2.2.2.1)
                have HS6_:=(hb.cell (World.block_lt_of_cell? _ _ (hHeld.2.2.2.2.2.2))).trans (hHeld.2.2.2.2.2.2)
                clear hg_ hnew_
                (first | rw[← Ny355.out] at ho36 | (simp only[Int.reduceToNat] at ho36;rw[← Ny355.out] at ho36))
                have n0_:=Aside0.mk (Kd.R_elder' (by (with_reducible repeat (first | apply Kd.R_alloc | apply Kd.R_drewN | apply Kd.R_drew));exact HO_5.out) (Kd.R_base ho36) hb)
                have n1_:=Aside0.mk (Kd.R_elder' (by (with_reducible repeat (first | apply Kd.R_alloc | apply Kd.R_drewN | apply Kd.R_drew));exact HO_6.out) (Kd.R_base ho36) hb)
                have n2_:=Aside0.mk (Kd.R_elder' (by (with_reducible repeat (first | apply Kd.R_alloc | apply Kd.R_drewN | apply Kd.R_drew));exact HO_7.out) (Kd.R_base ho36) hb)
                have n3_:=Aside0.mk (Kd.R_lower (Kd.R_new' (Kd.R_new' (Kd.R_new' ho36 (Kd.R_lt (by (with_reducible repeat (first | apply Kd.R_alloc | apply Kd.R_drewN | apply Kd.R_drew));exact HO_5.out))) (Kd.R_lt (by (with_reducible repeat (first | apply Kd.R_alloc | apply Kd.R_drewN | apply Kd.R_drew));exact HO_6.out))) (Kd.R_lt (by (with_reducible repeat (first | apply Kd.R_alloc | apply Kd.R_drewN | apply Kd.R_drew));exact HO_7.out))) (below_size (by repeat (first | (with_reducible first | exact HB.out | apply below_alloc | apply pw_below_drewN | apply below_drew1) | exact HB.out))))
                have n4_:=Aside0.mk (below_step (by repeat (first | (with_reducible first | exact HB.out | apply below_alloc | apply pw_below_drewN | apply below_drew1) | exact HB.out)) hb)
                clear HO_5
                clear HO_6
                clear HO_7
                clear HB
                have HO_5:=n0_
                have HO_6:=n1_
                have HO_7:=n2_
                have HO357:=n3_
                have HB:=n4_
                clear n0_ n1_ n2_ n3_ n4_
                clear hb ho36
                refine hK.out _ _ ⟨HS0_,HS1_,HS2_,HS3_,HS4_,HS5_,HS6_⟩ (fun hHeld=>?_)
                clear hK K;refine norm_ (a':=?_) ?_ ?_
                rotate_left
                ·show Act.put _ (some 132) _=_
                 simp only[Act.put,sZ0,sZ1,sZ2,i64_w,i32_w];rfl
                refine pure_ (i:=27) (N:=some 7) (v:=?_) (a':=?_) #[true,true,true,true,true,true,true,true,true,true,true,true,true,true,true,true,true,true,true,true,true,true,true,true,true,true,true,true] rfl rfl (any_of HT_.out (by kernel_rfl)) (fun _ _ _ h=>h) (Or.inl ⟨by rfl,?_⟩) ?_ ?_
                rotate_left
                ·intro w';go_simp;with_reducible rfl
                rotate_left
                ·simp only[Act.put,sZ0,sZ1,sZ2,i64_w,i32_w];rfl
                refine done_ (done_of HT_.out (by kernel_rfl)) ?_
                try go_wp2
                go_roundg k1
                case measure=>have:=HK1.out;omega
                case rel=>exact ⟨(y355),(wrap64 (x8_1+1)),(by first | rfl | (simp;done) | (simp[*];done)),H',⟨by have:=HK1.out;omega⟩,⟨by (with_reducible repeat (first | apply Kd.R_alloc | apply Kd.R_drewN | apply Kd.R_drew));exact Kd.R_mono HO_5.out (fun _ hk=>⟨hk.1.1,hk.2⟩)⟩,⟨by (with_reducible repeat (first | apply Kd.R_alloc | apply Kd.R_drewN | apply Kd.R_drew));exact Kd.R_mono HO_6.out (fun _ hk=>⟨hk.1.1,hk.2⟩)⟩,⟨by (with_reducible repeat (first | apply Kd.R_alloc | apply Kd.R_drewN | apply Kd.R_drew));exact Kd.R_mono HO357.out (fun _ hk=>⟨hk.1.1.2,hk.1.2⟩)⟩,⟨by repeat (first | (with_reducible first | exact HB.out | apply below_alloc | apply pw_below_drewN | apply below_drew1) | exact HB.out)⟩⟩
               rw[if_neg c28] at H
               exact absurd H (by simp)
              rw[if_neg c27] at H
              exact absurd H (by simp)
             rw[if_neg c26] at H
             exact absurd H (by simp)
            rw[if_neg c22] at H
            exact absurd H (by simp)
           rw[if_neg c21] at H
           exact absurd H (by simp)
          rw[if_neg c20] at H
          exact absurd H (by simp)
         rw[if_neg c19] at H
         exact absurd H (by simp)
        rw[if_neg c18] at H
        exact absurd H (by simp)
       rw[if_neg c17] at H
       exact absurd H (by simp)
      rw[if_neg c13] at H
      exact absurd H (by simp)
     rw[if_neg c12] at H
     exact absurd H (by simp)
    rw[if_neg c11] at H
    have c11b0:decide (x8_1<64)=false:=decide_eq_false c11
    clear c11
    obtain ⟨y358,hy358⟩:∃ y_:List Int,y_=(([]:List Int)):=⟨_,rfl⟩
    replace H:(nepentheref02_Compress.l1 k1 l0 x7_1 y358 0)=some r:=by first | (rw[hy358];with_reducible exact H) | (have H2_:=(Option.bind_some _ _).symm.trans H;rw[hy358];with_reducible exact H2_) | (have H2_:=(Option.bind_some _ _).symm.trans H;with_reducible exact H2_) | with_reducible exact H | (rw[hy358];exact H) | exact H
    have Ny358:=Aside0.mk hy358
    clear hy358
    have H':=Aside0.mk H
    clear H
    go_wp2_with (first | ((with_reducible refine gate_dst (N:=133) rfl ?_);refine Kd.R_lit (Kd.int .u32) _ 87 ?hg (N:=133) ?hd (xs:=([]:List Int)) (inner:=[]) (ok:=fun _=>True) (okp:=fun _=>True) ?hr ?hp (fun _ hk=>hk) trivial (Below.refl _ _) (Nat.le_refl _) (by simp) ?_;(case hd=>rfl);(case hg=>rfl);(case hr=>first | (go_simp;done) | (go_simp;rfl) | (go_simp;simp only[IntKind.wrap_u32,Int.emod_add_emod,Int.add_emod_emod]));(case hp=>exact (Reps.none _ _));intro v359 w37 ho38 hb hg_ hnew_;clear hg_ hnew_;(first | rw[← Ny358.out] at ho38 | (simp only[Int.reduceToNat] at ho38;rw[← Ny358.out] at ho38));have n0_:=Aside0.mk (Kd.R_elder' (by (with_reducible repeat (first | apply Kd.R_alloc | apply Kd.R_drewN | apply Kd.R_drew));exact HO_5.out) (Kd.R_base ho38) hb);have n1_:=Aside0.mk (Kd.R_elder' (by (with_reducible repeat (first | apply Kd.R_alloc | apply Kd.R_drewN | apply Kd.R_drew));exact HO_6.out) (Kd.R_base ho38) hb);have n2_:=Aside0.mk (Kd.R_elder' (by (with_reducible repeat (first | apply Kd.R_alloc | apply Kd.R_drewN | apply Kd.R_drew));exact HO_7.out) (Kd.R_base ho38) hb);have n3_:=Aside0.mk (Kd.R_lower (Kd.R_new' (Kd.R_new' (Kd.R_new' ho38 (Kd.R_lt (by (with_reducible repeat (first | apply Kd.R_alloc | apply Kd.R_drewN | apply Kd.R_drew));exact HO_5.out))) (Kd.R_lt (by (with_reducible repeat (first | apply Kd.R_alloc | apply Kd.R_drewN | apply Kd.R_drew));exact HO_6.out))) (Kd.R_lt (by (with_reducible repeat (first | apply Kd.R_alloc | apply Kd.R_drewN | apply Kd.R_drew));exact HO_7.out))) (below_size (by repeat (first | (with_reducible first | exact HB.out | apply below_alloc | apply pw_below_drewN | apply below_drew1) | exact HB.out))));have n4_:=Aside0.mk (below_step (by repeat (first | (with_reducible first | exact HB.out | apply below_alloc | apply pw_below_drewN | apply below_drew1) | exact HB.out)) hb);clear HO_5;clear HO_6;clear HO_7;clear HB;have HO_5:=n0_;have HO_6:=n1_;have HO_7:=n2_;have HO360:=n3_;have HB:=n4_;clear n0_ n1_ n2_ n3_ n4_;clear hb ho38))
    go_loopg [11,12] k1 (fun kq v11 v12 w'=>∃ (x11_2:List Int) (x12_2:Int),v12=.int .i64 x12_2∧Aside0 (nepentheref02_Compress.l1 kq l0 x7_1 x11_2 x12_2=some r)∧Aside0 (kq≤k1)∧Aside0 (Kd.R (Kd.int .u32) 87 w' w.heap.size (fun k_=>some k_≠(v11:Value).ownBlock) u7 x7_1)∧Aside0 (Kd.R (Kd.int .u32) 87 w' w.heap.size (fun k_=>some k_≠(u7:Value).ownBlock) v11 x11_2)∧Aside0 (Below w.heap.size w w'))
    case atStart=>exact ⟨(y358),(0),(by first | rfl | (simp;done) | (simp[*];done)),H',⟨Nat.le_refl _⟩,⟨by (with_reducible repeat (first | apply Kd.R_alloc | apply Kd.R_drewN | apply Kd.R_drew));exact Kd.R_mono HO_7.out (fun _ hk=>by first | exact hk.2 | trivial)⟩,⟨by (with_reducible repeat (first | apply Kd.R_alloc | apply Kd.R_drewN | apply Kd.R_drew));exact Kd.R_mono HO360.out (fun _ hk=>by first | exact hk.2 | trivial)⟩,⟨by repeat (first | (with_reducible first | exact HB.out | apply below_alloc | apply pw_below_drewN | apply below_drew1) | exact HB.out)⟩⟩
    case round=>
     clear H'
     try clear c1
     try clear c2
     try clear p2
     try clear p3
     try clear q3
     try clear hx3
     try clear qi3
     try clear p6
     try clear c10
     try clear c11
     try clear c11b0
     try clear c12
     try clear c13
     try clear c17
     try clear c18
     try clear c19
     try clear c20
     try clear c21
     try clear c22
     try clear c26
     try clear c27
     try clear c28
     try clear p34
     try clear q34
     try clear hx34
     try clear qi34
     try clear p35
     try clear q35
     try clear hx35
     try clear qi35
     try clear hx348_0
     try clear hx349_0
     try clear hx350_0
     try clear hx351_0
     try clear hx352_0
     try clear hx353_0
     try clear hx354_0
     try clear p348
     try clear p349
     try clear p350
     try clear p351
     try clear p352
     try clear p353
     try clear p354
     try clear q348
     try clear q349
     try clear q350
     try clear q351
     try clear q352
     try clear q353
     try clear q354
     obtain ⟨x11_2,x12_2,rfl,HA,HK2,HO_7,HO_11,HB⟩:=hrel
     cases gk with
     |zero=>exact absurd HA.out (by simp[nepentheref02_Compress.l1])
     |succ k2=>
      have H:=HA.out
      clear HA
      simp only[nepentheref02_Compress.l1] at H
      by_cases c39:x12_2<8
      ·rw[if_pos c39] at H
       have c39b0:decide (x12_2<8)=true:=decide_eq_true c39
       clear c39
       by_cases c40:0≤x12_2
       ·rw[if_pos c40] at H
        have c40b0:decide (0≤x12_2)=true:=decide_eq_true c40
        clear c40
        by_cases c41:x12_2<(x7_1.length:Int)
        ·rw[if_pos c41] at H
         have c41b0:decide (x12_2<(x7_1.length:Int))=true:=decide_eq_true c41
         clear c41
         by_cases c42:x12_2<(l0.length:Int)
         ·rw[if_pos c42] at H
          have c42b0:decide (x12_2<(l0.length:Int))=true:=decide_eq_true c42
          clear c42
          by_cases c43:x11_2.length<35184372088832
          ·rw[if_pos c43] at H
           have LMc43:=Aside0.mk c43
           clear c43
           obtain ⟨y363,hy363⟩:∃ y_:List Int,y_=(x11_2 ++ [((rd x7_1 x12_2)+(rd l0 x12_2)) % 4294967296]):=⟨_,rfl⟩
           replace H:(nepentheref02_Compress.l1 k2 l0 x7_1 y363 (wrap64 (x12_2+1)))=some r:=by first | (rw[hy363];with_reducible exact H) | (have H2_:=(Option.bind_some _ _).symm.trans H;rw[hy363];with_reducible exact H2_) | (have H2_:=(Option.bind_some _ _).symm.trans H;with_reducible exact H2_) | with_reducible exact H | (rw[hy363];exact H) | exact H
           have Ny363:=Aside0.mk hy363
           clear hy363
           have H':=Aside0.mk H
           clear H
           try go_wp2
           have n0_:=Aside0.mk (Kd.R_drew HO_7.out)
           have n1_:=Aside0.mk (Kd.R_drew HO_11.out)
           have n2_:=Aside0.mk (below_drew1 HB.out)
           clear HO_7
           clear HO_11
           clear HB
           have HO_7:=n0_
           have HO_11:=n1_
           have HB:=n2_
           clear n0_ n1_ n2_
           obtain ⟨Ao45,co45,eo45⟩:=Kd.R_slice HO_7.out
           (first | subst eo45 | (injection eo45 with f1_ f2_ f3_;have f4_:=f1_.symm;have f5_:=f3_.symm;clear f1_ f2_ f3_;subst f4_;subst f5_))
           have p361:0≤(x12_2:Int):=of_decide_eq_true (by first | (with_reducible assumption) | assumption)
           have q361:x12_2<(x7_1.length:Int):=of_decide_eq_true (by first | (with_reducible assumption) | assumption)
           obtain ⟨ad361,e361,hx361_0⟩:=Kd.at_int (Kd.R_reads' HO_7.out).2.2 x12_2 p361 q361
           cases e361
           replace p361:=eq_true p361
           replace q361:=eq_true q361
           have p362:0≤(x12_2:Int):=of_decide_eq_true (by first | (with_reducible assumption) | assumption)
           have q362:x12_2<(l0.length:Int):=of_decide_eq_true (by first | (with_reducible assumption) | assumption)
           obtain ⟨ad362,e362,hx362_0⟩:=Kd.at_int HR0.out x12_2 p362 q362
           have hw362_0:=hx362_0
           cases e362
           replace hx362_0:=(HB.out.cell (World.block_lt_of_cell? w _ hx362_0)).trans hx362_0
           replace p362:=eq_true p362
           replace q362:=eq_true q362
           refine start_ (n:=13) (S:=fun w'=>w'.cell? (ad361.add (x12_2).toNat)=some (.int .u32 (rd x7_1 x12_2))∧w'.cell? (ad362.add (x12_2).toNat)=some (.int .u32 (rd l0 x12_2))) (ds:=[10,11]) #[false,false,false,false,false,false,false,false,false,false,false,false,false] (by kernel_rfl) rfl rfl ⟨hx361_0,((HB.out.cell (World.block_lt_of_cell? w _ hw362_0)).trans hw362_0)⟩ (fun hHeld=>?_);refine with_tabW nepentheref02_Compress.tab14 nepentheref02_Compress.bits14 (fun HT_ HW_=>?_)
           generalize wr.drew=w44 at HO_7 HO_11 HB hx361_0 hx362_0 hHeld ⊢
           refine pure_ (i:=0) (N:=some 138) (v:=?_) (a':=?_) #[true,false,false,false,false,false,false,false,false,false,false,false,false] rfl rfl (any_of HT_.out (by kernel_rfl)) (fun _ _ _ h=>h) (Or.inl ⟨by rfl,?_⟩) ?_ ?_
           rotate_left
           ·intro w';go_simp;with_reducible rfl
           rotate_left
           ·simp only[Act.put,sZ0,sZ1,sZ2,i64_w,i32_w];rfl
           refine pure_ (i:=1) (N:=some 139) (v:=?_) (a':=?_) #[true,true,false,false,false,false,false,false,false,false,false,false,false] rfl rfl (any_of HT_.out (by kernel_rfl)) (fun _ _ _ h=>h) (Or.inl ⟨by rfl,?_⟩) ?_ ?_
           rotate_left
           ·intro w';go_simp;with_reducible rfl
           rotate_left
           ·simp only[Act.put,sZ0,sZ1,sZ2,i64_w,i32_w];rfl
           refine pure_ (i:=2) (N:=some 140) (v:=?_) (a':=?_) #[true,true,true,false,false,false,false,false,false,false,false,false,false] rfl rfl (any_of HT_.out (by kernel_rfl)) (fun _ _ _ h=>h) (Or.inl ⟨by rfl,?_⟩) ?_ ?_
           rotate_left
           ·intro w';go_simp;with_reducible rfl
           rotate_left
           ·simp only[Act.put,sZ0,sZ1,sZ2,i64_w,i32_w];rfl
           refine pure_ (i:=3) (N:=some 141) (v:=?_) (a':=?_) #[true,true,true,true,false,false,false,false,false,false,false,false,false] rfl rfl (any_of HT_.out (by kernel_rfl)) (fun _ _ _ h=>h) (Or.inl ⟨by rfl,?_⟩) ?_ ?_
           rotate_left
           ·intro w';go_simp;with_reducible rfl
           rotate_left
           ·simp only[Act.put,sZ0,sZ1,sZ2,i64_w,i32_w];rfl
           refine pure_ (i:=5) (N:=some 143) (v:=?_) (a':=?_) #[true,true,true,true,false,true,false,false,false,false,false,false,false] rfl rfl (any_of HT_.out (by kernel_rfl)) (fun _ _ _ h=>h) (Or.inl ⟨by rfl,?_⟩) ?_ ?_
           rotate_left
           ·intro w';go_simp;with_reducible rfl
           rotate_left
           ·simp only[Act.put,sZ0,sZ1,sZ2,i64_w,i32_w];rfl
           refine pure_ (i:=6) (N:=some 144) (v:=?_) (a':=?_) #[true,true,true,true,false,true,true,false,false,false,false,false,false] rfl rfl (any_of HT_.out (by kernel_rfl)) (fun _ _ _ h=>h) (Or.inl ⟨by rfl,?_⟩) ?_ ?_
           rotate_left
           ·intro w';go_simp;with_reducible rfl
           rotate_left
           ·simp only[Act.put,sZ0,sZ1,sZ2,i64_w,i32_w];rfl
           refine pure_ (i:=7) (N:=some 145) (v:=?_) (a':=?_) #[true,true,true,true,false,true,true,true,false,false,false,false,false] rfl rfl (any_of HT_.out (by kernel_rfl)) (fun _ _ _ h=>h) (Or.inl ⟨by rfl,?_⟩) ?_ ?_
           rotate_left
           ·intro w';go_simp;with_reducible rfl
           rotate_left
           ·simp only[Act.put,sZ0,sZ1,sZ2,i64_w,i32_w];rfl
           refine take_ (i:=4) (N:=some 142) (v:=?_) (a':=?_) #[true,true,true,true,true,true,true,true,false,false,false,false,false] rfl rfl (take_ofW HT_.out HW_.out (by kernel_rfl)) (fun _ _ _ h=>h) (Or.inl ⟨by rfl,?_⟩) hHeld ?_ ?_
           rotate_left
           ·rintro w' ⟨s0,s1⟩
            go_simp;with_reducible rfl
           rotate_left
           ·simp only[Act.put,sZ0,sZ1,sZ2,i64_w,i32_w];rfl
           refine take_ (i:=8) (N:=some 146) (v:=?_) (a':=?_) #[true,true,true,true,true,true,true,true,true,false,false,false,false] rfl rfl (take_ofW HT_.out HW_.out (by kernel_rfl)) (fun _ _ _ h=>h) (Or.inl ⟨by rfl,?_⟩) hHeld ?_ ?_
           rotate_left
           ·rintro w' ⟨s0,s1⟩
            go_simp;with_reducible rfl
           rotate_left
           ·simp only[Act.put,sZ0,sZ1,sZ2,i64_w,i32_w];rfl
           refine pure_ (i:=9) (N:=some 147) (v:=?_) (a':=?_) #[true,true,true,true,true,true,true,true,true,true,false,false,false] rfl rfl (any_of HT_.out (by kernel_rfl)) (fun _ _ _ h=>h) (Or.inl ⟨by rfl,?_⟩) ?_ ?_
           rotate_left
           ·intro w';go_simp;with_reducible rfl
           rotate_left
           ·simp only[Act.put,sZ0,sZ1,sZ2,i64_w,i32_w];rfl
           refine last_ (i:=10) (N:=some 148) #[true,true,true,true,true,true,true,true,true,true,true,false,false] rfl rfl (one_of HT_.out (by kernel_rfl)) (by decide) (fun K hK=>?_)
           refine value_ (w1:=?_) (v:=?_) (by rfl) rfl ?_ ?_
           rotate_left 2
           ·go_simp
            constructor
            ·rfl
            rfl
           refine hK.out _ _ ?_
           clear hK K;refine norm_ (a':=?_) ?_ ?_
           rotate_left
           ·show Act.put _ (some 148) _=_
            simp only[Act.put,sZ0,sZ1,sZ2,i64_w,i32_w];rfl
           refine last_ (i:=11) (N:=some 149) #[true,true,true,true,true,true,true,true,true,true,true,true,false] rfl rfl (one_of HT_.out (by kernel_rfl)) (by decide) (fun K hK=>?_)
           refine Kd.R_append_step (Kd.int .u32) (w0:=w) w.heap.size (by rfl) (.tmp 138) (.tmp 148) 134 87 (.int .u32 0) 4 rfl Try.underlying134 info87 rfl (by decide) (by omega) u11 x11_2 (((rd x7_1 x12_2)+(rd l0 x12_2)) % 4294967296) [.int .u32 (((rd x7_1 x12_2)+(rd l0 x12_2)) % 4294967296)] (fun k_=>some k_≠(.slice (some ad361) x7_1.length co45:Value).ownBlock) (fun _=>False) rfl rfl ?aP (fun _ hk=>hk.elim) ?aF ?aO ?aB ?aS ?aL ?_
           (case aP=>exact rfl)
           (case aB=>exact (by repeat (first | (with_reducible first | exact HB.out | apply below_alloc | apply pw_below_drewN | apply below_drew1) | exact HB.out)))
           (case aF=>exact (fun k_ hk=>Kd.fresh' (Kd.R_lt (by (with_reducible repeat (first | apply Kd.R_alloc | apply Kd.R_drewN | apply Kd.R_drew));exact HO_7.out)) k_ hk))
           (case aO=>exact (by (with_reducible repeat (first | apply Kd.R_alloc | apply Kd.R_drewN | apply Kd.R_drew));exact HO_11.out))
           (case aS=>exact (below_size (by repeat (first | (with_reducible first | exact HB.out | apply below_alloc | apply pw_below_drewN | apply below_drew1) | exact HB.out))))
           (case aL=>have:=LMc43.out;omega)
           intro v364 w46 ho hb hg hat
           rw[← Ny363.out] at ho
           have n0_:=Aside0.mk (Kd.R_after (ok:=(fun _=>True)) (by (with_reducible repeat (first | apply Kd.R_alloc | apply Kd.R_drewN | apply Kd.R_drew));exact Kd.R_mono HO_7.out (fun _ hk=>⟨trivial,hk⟩)) hg hat)
           have n1_:=Aside0.mk (hb)
           have n2_:=Aside0.mk (ho)
           clear HO_7
           clear HB
           clear HO_11
           have HO_7:=n0_
           have HB:=n1_
           have HO365:=n2_
           clear n0_ n1_ n2_
           clear ho hb hg hat
           refine hK.out _ _ ?_
           clear hK K;refine norm_ (a':=?_) ?_ ?_
           rotate_left
           ·show Act.put _ (some 149) _=_
            simp only[Act.put,sZ0,sZ1,sZ2,i64_w,i32_w];rfl
           refine pure_ (i:=12) (N:=some 11) (v:=?_) (a':=?_) #[true,true,true,true,true,true,true,true,true,true,true,true,true] rfl rfl (any_of HT_.out (by kernel_rfl)) (fun _ _ _ h=>h) (Or.inl ⟨by rfl,?_⟩) ?_ ?_
           rotate_left
           ·intro w';go_simp;with_reducible rfl
           rotate_left
           ·simp only[Act.put,sZ0,sZ1,sZ2,i64_w,i32_w];rfl
           refine done_ (done_of HT_.out (by kernel_rfl)) ?_
           try go_wp2
           go_roundg k2
           case measure=>have:=HK1.out;have:=HK2.out;omega
           case rel=>exact ⟨(y363),(wrap64 (x12_2+1)),(by first | rfl | (simp;done) | (simp[*];done)),H',⟨by have:=HK1.out;have:=HK2.out;omega⟩,⟨by (with_reducible repeat (first | apply Kd.R_alloc | apply Kd.R_drewN | apply Kd.R_drew));exact Kd.R_mono HO_7.out (fun _ hk=>by first | exact hk.2 | trivial)⟩,⟨by (with_reducible repeat (first | apply Kd.R_alloc | apply Kd.R_drewN | apply Kd.R_drew));exact HO365.out⟩,⟨by repeat (first | (with_reducible first | exact HB.out | apply below_alloc | apply pw_below_drewN | apply below_drew1) | exact HB.out)⟩⟩
          rw[if_neg c43] at H
          exact absurd H (by simp)
         rw[if_neg c42] at H
         exact absurd H (by simp)
        rw[if_neg c41] at H
        exact absurd H (by simp)
       rw[if_neg c40] at H
       exact absurd H (by simp)
      rw[if_neg c39] at H
      have c39b0:decide (x12_2<8)=false:=decide_eq_false c39
      clear c39
      obtain rfl:=Option.some.inj H
      go_wp2
      go_ret
      exact ⟨_,by first | rfl | (simp[errW_none,errW_some] <;> rfl) | (simp[*,errW_none,errW_some] <;> rfl),by (with_reducible repeat (first | apply Kd.R_alloc | apply Kd.R_drewN | apply Kd.R_drew));exact Kd.R_mono HO_11.out (fun _ hk=>trivial),by repeat (first | (with_reducible first | exact HB.out | apply below_alloc | apply pw_below_drewN | apply below_drew1) | exact HB.out)⟩
 rw[if_neg c5] at H
 exact absurd H (by simp)
end Go.Proofs.Ytbajioiiaamokaa.QB
