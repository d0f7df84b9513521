/- SmA, pruned (slim.py). -/
import Derived.Test.YtbajioiiaamokaaZB32
import Derived.Test.YtbajioiiaamokaaZB33
namespace Go.Proofs.Ytbajioiiaamokaa.Own
open Go.RowKit Go.Proofs.Ytbajioiiaamokaa.Arr Go.Proofs.Ytbajioiiaamokaa.QB Go.Proofs.YtbajioiiaamokaaW.PrintWords Go.Proofs.YtbajioiiaamokaaW.PrintLast Go.Proofs.YtbajioiiaamokaaW.PrintMore
set_option linter.unusedVariables false
set_option linter.unusedSimpArgs false
attribute [-go_sem] Instr.build
theorem slSame_eq (x:SlT) (hx:x.wrap.length≤1000000):nepentheref17_Same.f (0+x.wrap.length+1) x.used x.size x.epoch x.count x.wrap x.used x.size x.epoch x.count x.wrap=some true:=by
 unfold nepentheref17_Same.f
 rw[if_pos (by simp),if_pos rfl,if_pos rfl,if_pos rfl,same_dec x.wrap x.wrap (by omega) 0,Option.bind_some]
 simp
set_option maxHeartbeats 4000000 in
set_option maxRecDepth 100000 in
theorem recSame_eq (r:RcT) (A:Nat→Option Addr) (c:Nat→Nat) (A':Nat→Option Addr) (c':Nat→Nat) (w:World) (h:RcV w r A c) (h':RcV w r A' c') (hlen:∀ j,j<6→(rlist r j).length≤1000000) :
  Calls Try.prog 16 #[.agg (rcl r A c).toArray,.agg (rcl r A' c').toArray] w fun e w'=>e=.returned (.bool true)∧Below w.heap.size w w':=by
 obtain ⟨CA,hCA⟩:∃ CA,CA=(rcl r A c).toArray:=⟨_,rfl⟩
 obtain ⟨CB,hCB⟩:∃ CB,CB=(rcl r A' c').toArray:=⟨_,rfl⟩
 have hsame:=Lib.hid (fun (W:World) (j:Nat) (hj:j<6) (hW:Below w.heap.size w W)=>show Calls Try.prog 20 #[.slice (A j) (rlist r j).length (c j),.slice (A' j) (rlist r j).length (c' j)] W (fun e w'=>e=.returned (.bool true)∧Drawn0 W w') from by
  have:=same_any (rlist r j) (rlist r j) (by have:=hlen j hj;omega) W (A j) (c j) (A' j) (c' j) (Kd.C_below (h j hj).1 hW) (h j hj).2 (Kd.C_below (h' j hj).1 hW) (h' j hj).2
  rw[decide_eq_true rfl] at this
  exact this)
 have hs0:=Lib.hid (fun (W:World) (hW:Below w.heap.size w W)=>show Calls Try.prog 20 #[.slice (A 0) r.salt.length (c 0),.slice (A' 0) r.salt.length (c' 0)] W (fun e w'=>e=.returned (.bool true)∧Drawn0 W w') from hsame.out W 0 (by omega) hW)
 have hs1:=Lib.hid (fun (W:World) (hW:Below w.heap.size w W)=>show Calls Try.prog 20 #[.slice (A 1) r.check.length (c 1),.slice (A' 1) r.check.length (c' 1)] W (fun e w'=>e=.returned (.bool true)∧Drawn0 W w') from hsame.out W 1 (by omega) hW)
 have hsl:=Lib.hid (fun (W:World) (k:Nat) (hk:k<4) (hW:Below w.heap.size w W)=>nepentheref17_Same.calls _ (r.s k).used (r.s k).size (r.s k).epoch (r.s k).count (A (k+2)) (c (k+2)) (r.s k).wrap (r.s k).used (r.s k).size (r.s k).epoch (r.s k).count (A' (k+2)) (c' (k+2)) (r.s k).wrap true W (Kd.C_below (h (k+2) (by omega)).1 hW) (h (k+2) (by omega)).2 (Kd.C_below (h' (k+2) (by omega)).1 hW) (h' (k+2) (by omega)).2 (slSame_eq (r.s k) (hlen (k+2) (by omega))))
 obtain ⟨W1,hW1⟩:∃ W1,W1=(w.alloc (.cells CA 39 (0,0))).alloc (.cells CB 39 (0,0)):=⟨_,rfl⟩
 have ha:=Lib.hid (show W1.heap[w.heap.size]?=some (.cells (rcl r A c).toArray 39 (0,0)) by rw[hW1,heap_skip _ _ _ (by simp),← hCA];exact heap_alloc_last _ _)
 have hbk:=Lib.hid (show W1.heap[w.heap.size+1]?=some (.cells (rcl r A' c').toArray 39 (0,0)) by rw[hW1,← hCB];have:=heap_alloc_last (w.alloc (.cells CA 39 (0,0))) (.cells CB 39 (0,0));simpa using this)
 have b1:=Lib.hid (show Below w.heap.size w W1 by rw[hW1];exact below_alloc ((Below.refl _ _).alloc (Nat.le_refl _) _) _)
 rw[← hCA,← hCB]
 obtain ⟨p0,p1,p2,p3,p4⟩:=rc_head ha.out
 obtain ⟨r0,r1,r2,r3,r4⟩:=rc_head hbk.out
 clear h h' hlen hCA hCB hsame
 go_enter Try.func16,Try.ntmps16
 go_upto_region 1 with fail
 rw[← hW1]
 clear hW1
 go_wp2_with (first
  |((with_reducible go_at_call 20);(with_reducible refine (hs0.out _ b1.out).mono ?_);rintro e w2 ⟨rfl,hd⟩;have b2:=Lib.hid (below_step b1.out (drawn_below hd));have p4':=pw_cell_below (drawn_below hd) p4;have r4':=pw_cell_below (drawn_below hd) r4;have ha2:=Lib.hid (heap_below ha.out (drawn_below hd));have hbk2:=Lib.hid (heap_below hbk.out (drawn_below hd));clear hd)
  |((with_reducible go_at_call 20);(with_reducible refine (hs1.out _ b2.out).mono ?_);rintro e w3 ⟨rfl,hd⟩;have b3:=Lib.hid (below_step b2.out (drawn_below hd));have ha3:=Lib.hid (heap_below ha2.out (drawn_below hd));have hbk3:=Lib.hid (heap_below hbk2.out (drawn_below hd));clear hd))
 clear p0 p1 p2 p3 p4 r0 r1 r2 r3 r4 p4' r4' ha hbk ha2 hbk2 b1 b2 hs0 hs1
 go_loopw [5,6] (fun v5 v6 wr=>∃ k:Nat,k≤4∧v6=.int .i64 k∧v5=.bool true∧wr.heap[w.heap.size]?=some (.cells (rcl r A c).toArray 39 (0,0))∧wr.heap[w.heap.size+1]?=some (.cells (rcl r A' c').toArray 39 (0,0))∧Below w.heap.size w wr) (fun _ v6 _=>4 - (intOf v6).toNat)
 case atStart=>exact ⟨0,by omega,rfl,rfl,ha3.out,hbk3.out,b3.out⟩
 case round=>
  obtain ⟨k,hk,rfl,rfl,hga,hgb,hb⟩:=hrel
  have hga':=Lib.hid hga
  have hgb':=Lib.hid hgb
  have hb':=Lib.hid hb
  clear hga hgb hb ha3 hbk3 b3
  by_cases hlt:k<4
  ·have q1:(k:Int)<4:=by omega
   have q2:(0:Int)≤(k:Int):=by omega
   have kw:IntKind.i64.wrap ((k:Int)+1)=(k:Int)+1:=by rw[IntKind.wrap_i64];omega
   have hk1:=Lib.hid hlt
   have hsz:=Lib.hid (show ∀ (A:Option Addr) (c:Nat),(Try.prog.info? 36).map (·.size)=some (slcl (r.s k) A c).length from fun _ _=>szSr)
   clear hlt hk
   go_wp2_with fail
   refine start_ (n:=13) (S:=fun w'=>Below w.heap.size w w'∧w'.heap[w.heap.size]?=some (.cells (rcl r A c).toArray 39 (0,0))∧w'.heap[w.heap.size+1]?=some (.cells (rcl r A' c').toArray 39 (0,0))) (ds:=[]) #[false,false,false,false,false,false,false,false,false,false,false,false,false] (by kernel_rfl) rfl rfl (by exact ⟨below_drew hb'.out,hga'.out,hgb'.out⟩) (fun hHeld=>?_)
   refine pure_ (i:=0) (N:=some 44) (v:=?_) (a':=?_) #[true,false,false,false,false,false,false,false,false,false,false,false,false] rfl rfl (by kernel_rfl) (fun _ _ _ h=>h) (Or.inl ⟨by rfl,?_⟩) ?_ ?_
   rotate_left
   ·intro w';go_simp;with_reducible rfl
   rotate_left
   ·simp only[Act.put,sZ0,sZ1,sZ2,i64_w,i32_w];rfl
   refine pure_ (i:=1) (N:=some 45) (v:=?_) (a':=?_) #[true,true,false,false,false,false,false,false,false,false,false,false,false] rfl rfl (by kernel_rfl) (fun _ _ _ h=>h) (Or.inl ⟨by rfl,?_⟩) ?_ ?_
   rotate_left
   ·intro w';go_simp;with_reducible rfl
   rotate_left
   ·simp only[Act.put,sZ0,sZ1,sZ2,i64_w,i32_w];rfl
   refine pure_ (i:=2) (N:=some 46) (v:=?_) (a':=?_) #[true,true,true,false,false,false,false,false,false,false,false,false,false] rfl rfl (by kernel_rfl) (fun _ _ _ h=>h) (Or.inl ⟨by rfl,?_⟩) ?_ ?_
   rotate_left
   ·intro w';go_simp;with_reducible rfl
   rotate_left
   ·simp only[Act.put,sZ0,sZ1,sZ2,i64_w,i32_w];rfl
   refine pure_ (i:=3) (N:=some 47) (v:=?_) (a':=?_) #[true,true,true,true,false,false,false,false,false,false,false,false,false] rfl rfl (by kernel_rfl) (fun _ _ _ h=>h) (Or.inl ⟨by rfl,?_⟩) ?_ ?_
   rotate_left
   ·intro w';go_simp;with_reducible rfl
   rotate_left
   ·simp only[Act.put,sZ0,sZ1,sZ2,i64_w,i32_w];rfl
   refine pure_ (i:=4) (N:=some 48) (v:=?_) (a':=?_) #[true,true,true,true,true,false,false,false,false,false,false,false,false] rfl rfl (by kernel_rfl) (fun _ _ _ h=>h) (Or.inl ⟨by rfl,?_⟩) ?_ ?_
   rotate_left
   ·intro w';go_simp;with_reducible rfl
   rotate_left
   ·simp only[Act.put,sZ0,sZ1,sZ2,i64_w,i32_w];rfl
   refine take_ (i:=5) (N:=some 49) (v:=?_) (a':=?_) #[true,true,true,true,true,true,false,false,false,false,false,false,false] rfl rfl (by kernel_rfl) (fun _ _ _ h=>h) (Or.inl ⟨by rfl,?_⟩) hHeld ?_ ?_
   rotate_left
   ·intro w' hS
    refine (exec_load_mid w' 36 _ (by rfl) w.heap.size (5+k*5) (by rfl) (slcl (r.s k) (A (k+2)) (c (k+2))) _ (rc_slot hS.2.1 k hk1.out) Try.underlying36 rfl (hsz.out _ _)).trans ?_;with_reducible rfl
   rotate_left
   ·simp only[Act.put,sZ0,sZ1,sZ2,i64_w,i32_w];rfl
   refine pure_ (i:=6) (N:=some 50) (v:=?_) (a':=?_) #[true,true,true,true,true,true,true,false,false,false,false,false,false] rfl rfl (by kernel_rfl) (fun _ _ _ h=>h) (Or.inl ⟨by rfl,?_⟩) ?_ ?_
   rotate_left
   ·intro w';go_simp;with_reducible rfl
   rotate_left
   ·simp only[Act.put,sZ0,sZ1,sZ2,i64_w,i32_w];rfl
   refine pure_ (i:=7) (N:=some 51) (v:=?_) (a':=?_) #[true,true,true,true,true,true,true,true,false,false,false,false,false] rfl rfl (by kernel_rfl) (fun _ _ _ h=>h) (Or.inl ⟨by rfl,?_⟩) ?_ ?_
   rotate_left
   ·intro w';go_simp;with_reducible rfl
   rotate_left
   ·simp only[Act.put,sZ0,sZ1,sZ2,i64_w,i32_w];rfl
   refine pure_ (i:=8) (N:=some 52) (v:=?_) (a':=?_) #[true,true,true,true,true,true,true,true,true,false,false,false,false] rfl rfl (by kernel_rfl) (fun _ _ _ h=>h) (Or.inl ⟨by rfl,?_⟩) ?_ ?_
   rotate_left
   ·intro w';go_simp;with_reducible rfl
   rotate_left
   ·simp only[Act.put,sZ0,sZ1,sZ2,i64_w,i32_w];rfl
   refine take_ (i:=9) (N:=some 53) (v:=?_) (a':=?_) #[true,true,true,true,true,true,true,true,true,true,false,false,false] rfl rfl (by kernel_rfl) (fun _ _ _ h=>h) (Or.inl ⟨by rfl,?_⟩) hHeld ?_ ?_
   rotate_left
   ·intro w' hS
    refine (exec_load_mid w' 36 _ (by rfl) (w.heap.size+1) (5+k*5) (by rfl) (slcl (r.s k) (A' (k+2)) (c' (k+2))) _ (rc_slot hS.2.2 k hk1.out) Try.underlying36 rfl (hsz.out _ _)).trans ?_;with_reducible rfl
   rotate_left
   ·simp only[Act.put,sZ0,sZ1,sZ2,i64_w,i32_w];rfl
   refine one_ (i:=10) (N:=some 54) #[true,true,true,true,true,true,true,true,true,true,true,false,false] rfl rfl (by kernel_rfl) (by decide) (fun K hK=>?_)
   refine goes_ Try.func47 (by kernel_rfl) rfl #[.agg (slcl (r.s k) (A (k+2)) (c (k+2))).toArray,.agg (slcl (r.s k) (A' (k+2)) (c' (k+2))).toArray] (by rfl) rfl rfl (by (try simp only[List.map_toArray,List.map_cons,List.map_nil]);first | done | rfl) ?_
   refine (hsl.out _ k hk1.out hHeld.1).mono ?_
   rintro e wn ⟨rfl,hb⟩
   refine ⟨_,rfl,?_⟩
   refine hK.out _ _ ⟨below_step hHeld.1 hb,heap_below hHeld.2.1 hb,heap_below hHeld.2.2 hb⟩ (fun hHeld=>?_)
   have hH:=Lib.hid hHeld
   clear hb
   clear hK K;refine norm_ (a':=?_) ?_ ?_
   rotate_left
   ·show Act.put _ (some 54) _=_
    simp only[Act.put,sZ0,sZ1,sZ2,i64_w,i32_w];rfl
   refine pure_ (i:=11) (N:=some 55) (v:=?_) (a':=?_) #[true,true,true,true,true,true,true,true,true,true,true,true,false] rfl rfl (by kernel_rfl) (fun _ _ _ h=>h) (Or.inl ⟨by rfl,?_⟩) ?_ ?_
   rotate_left
   ·intro w';go_simp;with_reducible rfl
   rotate_left
   ·simp only[Act.put,sZ0,sZ1,sZ2,i64_w,i32_w];rfl
   refine pure_ (i:=12) (N:=some 5) (v:=?_) (a':=?_) #[true,true,true,true,true,true,true,true,true,true,true,true,true] rfl rfl (by kernel_rfl) (fun _ _ _ h=>h) (Or.inl ⟨by rfl,?_⟩) ?_ ?_
   rotate_left
   ·intro w';go_simp;with_reducible rfl
   rotate_left
   ·simp only[Act.put,sZ0,sZ1,sZ2,i64_w,i32_w];rfl
   refine done_ (by kernel_rfl) ?_
   go_wp2_with fail
   exact ⟨⟨k+1,hk1.out,by push_cast;rfl,rfl,hH.out.2.1,hH.out.2.2,hH.out.1⟩,by have:=hk1.out;simp only[intOf];omega⟩
  obtain rfl:k=4:=by omega
  clear hlt hk
  go_wp2_with fail
  go_ret
  exact ⟨rfl,hb'.out⟩
theorem builtRrF (a b c:Int) (A B:Option Addr) (n k m j:Nat):Try.prog.built 39 (#[(0,.int .u64 a),(1,.int .u64 b),(2,.slice A n k),(3,.int .u64 c),(4,.slice B m j)]:Array (Nat × Value)).toList=some (([.int .u64 a,.int .u64 b,.slice A n k,.int .u64 c,.slice B m j]:List Value)++rcs (fun _=>slZero) (fun _=>none) (fun _=>0)).toArray:=by kernel_rfl
def OfLoop (w:World) (r:RcT) (A:Nat→Option Addr) (c:Nat→Nat) (g k:Nat) (w':World):Prop:=
 ∃ s A' c',w'.heap[g]?=some (.cells (rcl { r with s:=s } A' c').toArray 39 (0,0))∧(∀ j,j<k→s j=r.s j∧A' (j+2)=A (j+2)∧c' (j+2)=c (j+2))∧(A' 0=A 0∧A' 1=A 1∧c' 0=c 0∧c' 1=c 1)∧w'.heap[w.heap.size]?=some (.cells (rcl r A c).toArray 28 (0,0))∧w'.heap[w.heap.size+1]?=some (.cells zRc 39 (0,0))∧Below w.heap.size w w'
set_option maxHeartbeats 4000000 in
set_option maxRecDepth 100000 in
theorem of18_any (r:RcT) (A:Nat→Option Addr) (c:Nat→Nat) (w:World) :
  Calls Try.prog 15 #[.agg (rcl r A c).toArray] w fun e w'=>e=.returned (.agg (rcl r A c).toArray)∧Below w.heap.size w w':=by
 obtain ⟨hz,-⟩:=zero_of_info (P:=Try.prog) infoRr
 obtain ⟨hzS,-⟩:=zero_of_info (P:=Try.prog) infoSl
 obtain ⟨CA,hCA⟩:∃ CA,CA=(rcl r A c).toArray:=⟨_,rfl⟩
 obtain ⟨Z,hZ⟩:∃ Z:Array Value,Z=zRc:=⟨_,rfl⟩
 obtain ⟨ZS,hZS⟩:∃ Z:Array Value,Z=zSl:=⟨_,rfl⟩
 obtain ⟨AA,hAA⟩:∃ AA:Nat→Option Addr,AA=upd (upd (fun _=>none) 0 (A 0)) 1 (A 1):=⟨_,rfl⟩
 obtain ⟨cc,hcc⟩:∃ cc:Nat→Nat,cc=upd (upd (fun _=>0) 0 (c 0)) 1 (c 1):=⟨_,rfl⟩
 obtain ⟨G,hG⟩:∃ G:Array Value,G=(rcl { r with s:=fun _=>slZero } AA cc).toArray:=⟨_,rfl⟩
 have hGb:∀ (W:World),(Instr.build 39 #[(0,.int .u64 r.gen),(1,.int .u64 r.epoch),(2,.slice (A 0) r.salt.length (c 0)),(3,.int .u64 r.bad),(4,.slice (A 1) r.check.length (c 1))]).run Try.prog W=.ok (.agg G) W:=fun W=>by
  rw[hG,hAA,hcc]
  exact run_build W _ _ _ (builtRrF r.gen r.epoch r.bad (A 0) (A 1) r.salt.length (c 0) r.check.length (c 1))
 have hGs:=Lib.hid (show (Try.prog.info? 39).map (·.size)=some G.size by rw[hG];exact szRr)
 have hGo:=Lib.hid (show G.all (·.oneCell')=true by rw[hG];exact rcl_one _ _ _)
 have hGZ:=Lib.hid (show Z.size=G.size by rw[hG,hZ];rfl)
 rw[← hZ] at hz
 rw[← hZS] at hzS
 obtain ⟨W1,hW1⟩:∃ W1,W1=(w.alloc (.cells CA 28 (0,0))).alloc (.cells Z 39 (0,0)):=⟨_,rfl⟩
 have ha:=Lib.hid (show W1.heap[w.heap.size]?=some (.cells (rcl r A c).toArray 28 (0,0)) by rw[hW1,heap_skip _ _ _ (by simp),← hCA];exact heap_alloc_last _ _)
 have hbk:=Lib.hid (show W1.heap[w.heap.size+1]?=some (.cells Z 39 (0,0)) by rw[hW1];have:=heap_alloc_last (w.alloc (.cells CA 28 (0,0))) (.cells Z 39 (0,0));simpa using this)
 have b1:=Lib.hid (show Below w.heap.size w W1 by rw[hW1];exact below_alloc ((Below.refl _ _).alloc (Nat.le_refl _) _) _)
 have hs1:=Lib.hid (show W1.heap.size=w.heap.size+2 by rw[hW1];simp)
 rw[← hCA]
 have hCA':=Lib.hid hCA
 have hZ':=Lib.hid hZ
 have hZS':=Lib.hid hZS
 have hG':=Lib.hid hG
 have hAA':=Lib.hid hAA
 have hcc':=Lib.hid hcc
 obtain ⟨p0,p1,p2,p3,p4⟩:=rc_head ha.out
 clear hCA hZ hZS hG hAA hcc
 go_enter Try.func15,Try.ntmps15
 go_upto_region 1 with fail
 rw[← hW1]
 clear hW1
 go_wp2_with (with_reducible refine wpList_store_row rfl 39 _ _ rfl W1.heap.size G rfl rfl 39 Z (heap_alloc_last _ _) hGs.out hGZ.out hGo.out ?_;have b12:=Lib.hid (below_setRow ((Below.refl W1.heap.size W1).alloc (Nat.le_refl _) (.cells Z 39 (0,0))) (Nat.le_refl _) G);have hg3:=Lib.hid (setRow_heap (W1.alloc (.cells Z 39 (0,0))) W1.heap.size Z G 39 (0,0) (heap_alloc_last _ _));generalize (W1.alloc (.cells Z 39 (0,0))).setRow W1.heap.size G=w2 at *)
 have hlt3:=Lib.hid (show w.heap.size+1<W1.heap.size by rw[hs1.out];omega)
 have hinit:=Lib.hid (show OfLoop w r A c W1.heap.size 0 w2 from ⟨fun _=>slZero,AA,cc,by rw[hg3.out,hG'.out],fun j hj=>absurd hj (by omega),by rw[hAA'.out,hcc'.out];exact ⟨rfl,rfl,rfl,rfl⟩,heap_below ha.out b12.out,by rw[← hZ'.out];exact heap_below hbk.out b12.out,below_step b1.out b12.out⟩)
 obtain ⟨g3,hg3e⟩:∃ g3,g3=W1.heap.size:=⟨_,rfl⟩
 rw[← hg3e] at hinit hlt3 ⊢
 clear p0 p1 p2 p3 p4 ha hbk b1 hs1 b12 hg3 hg3e hGb
 go_loopw [4] (fun v wr=>∃ k:Nat,k≤4∧v=.int .i64 k∧OfLoop w r A c g3 k wr) (fun v _=>4 - (intOf v).toNat)
 case atStart=>exact ⟨0,by omega,rfl,hinit.out⟩
 case round=>
  obtain ⟨k,hk,rfl,s,As,cs,hg,hsl,h01,hga,hgb,hb⟩:=hrel
  have hg':=Lib.hid hg
  have hsl':=Lib.hid hsl
  have h01':=Lib.hid h01
  have hga':=Lib.hid hga
  have hgb':=Lib.hid hgb
  have hb':=Lib.hid hb
  clear hg hsl h01 hga hgb hb hinit
  by_cases hlt:k<4
  ·have q1:(k:Int)<4:=by omega
   have q2:(0:Int)≤(k:Int):=by omega
   have kw:IntKind.i64.wrap ((k:Int)+1)=(k:Int)+1:=by rw[IntKind.wrap_i64];omega
   have hk1:=Lib.hid hlt
   obtain ⟨X,hX⟩:∃ X,X=r.s k:=⟨_,rfl⟩
   obtain ⟨a,ha⟩:∃ a,a=A (k+2):=⟨_,rfl⟩
   obtain ⟨m,hm⟩:∃ a,a=c (k+2):=⟨_,rfl⟩
   have hrg:=Lib.hid (show wr.rangeAt w.heap.size (5+k*5) (slcl X a m) by rw[hX,ha,hm];exact rc_slot hga'.out k hlt)
   obtain ⟨Ls,hLs⟩:∃ Ls,Ls=slcl X a m:=⟨_,rfl⟩
   rw[← hLs] at hrg
   have hszL:=Lib.hid (show (Try.prog.info? 25).map (·.size)=some Ls.length by rw[hLs];exact szSl)
   have hszA:=Lib.hid (show (Try.prog.info? 25).map (·.size)=some Ls.toArray.size by rw[hLs];exact szSl)
   have honeL:=Lib.hid (show Ls.toArray.all (·.oneCell')=true by rw[hLs];exact slcl_one _ _ _)
   have hzL:=Lib.hid (show ZS.size=Ls.toArray.size by rw[hLs,hZS'.out];rfl)
   have hcell:=Lib.hid (fun (W:World) (g:Nat) (h:W.heap[g]?=some (.cells Ls.toArray 25 (0,0)))=>sl_cells (x:=X) (A:=a) (c:=m) (by rw[hLs] at h;exact h))
   obtain ⟨CX,hCX⟩:∃ CX,CX=(slcl X a m).toArray:=⟨_,rfl⟩
   have hCb:∀ (W:World),(Instr.build 36 #[(0,.bool X.used),(1,.int .i64 X.size),(2,.int .u64 X.epoch),(3,.int .u64 X.count),(4,.slice a X.wrap.length m)]).run Try.prog W=.ok (.agg CX) W:=fun W=>by rw[hCX];exact run_build W _ _ _ (builtSr X.used X.size X.epoch X.count a X.wrap.length m)
   have hszC:=Lib.hid (show (Try.prog.info? 36).map (·.size)=some CX.size by rw[hCX];exact szSr)
   have honeC:=Lib.hid (show CX.all (·.oneCell')=true by rw[hCX];exact slcl_one _ _ _)
   have hX5:=Lib.hid (show CX.size=5 by rw[hCX];rfl)
   have hCX':=Lib.hid hCX
   have hX':=Lib.hid hX
   have ha':=Lib.hid ha
   have hm':=Lib.hid hm
   clear hX ha hm hLs hCX hlt hk
   go_wp2_with (first
    |(with_reducible refine wpList_load_mid rfl 25 _ rfl w.heap.size (5+k*5) rfl Ls _ hrg.out Try.underlying25 rfl hszL.out ?_)
    |(with_reducible refine wpList_store_row rfl 25 _ _ rfl wr.heap.size Ls.toArray rfl rfl 25 ZS (heap_alloc_last _ _) hszA.out hzL.out honeL.out ?_;have b12:=Lib.hid (below_setRow ((Below.refl wr.heap.size wr).alloc (Nat.le_refl _) (.cells ZS 25 (0,0))) (Nat.le_refl _) Ls.toArray);have hk5:=Lib.hid (setRow_heap (wr.alloc (.cells ZS 25 (0,0))) wr.heap.size ZS Ls.toArray 25 (0,0) (heap_alloc_last _ _));generalize (wr.alloc (.cells ZS 25 (0,0))).setRow wr.heap.size Ls.toArray=w3 at *;obtain ⟨d0,d1,d2,d3,d4⟩:=hcell.out w3 _ hk5.out;have g3':=Lib.hid (heap_below hg'.out b12.out);have hth:=Lib.hid (show w3.there g3 (5+k*5) CX.size by rw[hX5.out];exact there_of_block g3'.out (5+k*5) 5 (by rw[rcl_length];have:=hk1.out;omega)))
    |(with_reducible refine wpList_store_mid rfl 36 _ _ rfl g3 (5+k*5) CX rfl rfl hth.out hszC.out honeC.out ?_))
   have hg3:=rc_set g3'.out k hk1.out X a m
   have hbt:=but_setCells (g:=g3) (w:=w3) (5+k*5) (slcl X a m)
   have ga3:=heap_below hga'.out b12.out
   have gb3:=heap_below hgb'.out b12.out
   rw[show CX.toList=slcl X a m from by rw[hCX'.out]]
   exact ⟨⟨k+1,hk1.out,by push_cast;rfl,upd s k X,_,_,hg3,fun j hj=>by
    by_cases e:j=k
    ·subst e;rw[upd_same,upd_same,upd_same];exact ⟨hX'.out,ha'.out,hm'.out⟩
    ·rw[upd_other _ _ _ _ e,upd_other _ _ _ _ (by omega),upd_other _ _ _ _ (by omega)];exact hsl'.out j (by omega),
    by rw[upd_other _ _ _ _ (by omega),upd_other _ _ _ _ (by omega),upd_other _ _ _ _ (by omega),upd_other _ _ _ _ (by omega)];exact h01'.out,
    (hbt.2 _ (lt_of_heap ga3) (by have:=hlt3.out;omega)).trans ga3,(hbt.2 _ (lt_of_heap gb3) (Nat.ne_of_lt hlt3.out)).trans gb3,below_setCells (by have:=hlt3.out;omega) (slcl X a m) (5+k*5) w3 (below_step hb'.out b12.out)⟩,by have:=hk1.out;simp only[intOf];omega⟩
  obtain rfl:k=4:=by omega
  have hLl:=Lib.hid (show rcl { r with s:=s } As cs=rcl r A c by
   obtain ⟨e0,e1,e2,e3⟩:=h01'.out
   obtain ⟨x0,y0,z0⟩:=hsl'.out 0 (by omega)
   obtain ⟨x1,y1,z1⟩:=hsl'.out 1 (by omega)
   obtain ⟨x2,y2,z2⟩:=hsl'.out 2 (by omega)
   obtain ⟨x3,y3,z3⟩:=hsl'.out 3 (by omega)
   simp only[rcl,rch,rcs,e0,e1,e2,e3,x0,x1,x2,x3,y0,y1,y2,y3,z0,z1,z2,z3])
  obtain ⟨CR,hCR⟩:∃ CR,CR=(rcl { r with s:=s } As cs).toArray:=⟨_,rfl⟩
  have g1:=Lib.hid hg'.out
  rw[← hCR] at g1
  have gz:=Lib.hid (show wr.heap[w.heap.size+1]?=some (.cells Z 39 (0,0)) by rw[hZ'.out];exact hgb'.out)
  have hCRs:=Lib.hid (show (Try.prog.info? 39).map (·.size)=some CR.size by rw[hCR];exact szRr)
  have hCRo:=Lib.hid (show CR.all (·.oneCell')=true by rw[hCR];exact rcl_one _ _ _)
  have hCRz:=Lib.hid (show Z.size=CR.size by rw[hCR,hZ'.out];rfl)
  have hCR':=Lib.hid hCR
  clear hCR hlt hk
  go_wp2_with (first
   |(with_reducible refine wpList_load_row rfl 39 _ rfl g3 rfl 39 CR (0,0) _ g1.out Try.underlying39 rfl hCRs.out ?_)
   |(with_reducible refine wpList_store_row rfl 39 _ _ rfl (w.heap.size+1) CR rfl rfl 39 Z gz.out hCRs.out hCRz.out hCRo.out ?_))
  have hq:=setRow_heap wr (w.heap.size+1) Z CR 39 (0,0) gz.out
  refine bodyPost_ret (v:=.agg CR) (results_cell_row (p:=2) (ty:=39) rfl _ _ (w.heap.size+1) 39 _ (0,0) _ (by rfl) hq Try.underlying39 rfl hCRs.out) rfl ?_
  exact ⟨by rw[hCR'.out,hLl.out,hCA'.out],below_setRow hb'.out (Nat.le_succ _) _⟩
end Go.Proofs.Ytbajioiiaamokaa.Own
