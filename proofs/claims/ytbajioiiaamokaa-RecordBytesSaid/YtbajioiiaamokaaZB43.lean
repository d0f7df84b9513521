/- CpA, pruned (slim.py). -/
import Derived.Test.YtbajioiiaamokaaZB41
import Derived.Deep.DeepCutAuto
namespace Go.Proofs.Ytbajioiiaamokaa.Own
open Go.RowKit Go.Proofs.Ytbajioiiaamokaa.Arr Go.Proofs.Ytbajioiiaamokaa.QB Go.Proofs.YtbajioiiaamokaaW.PrintWords Go.Proofs.YtbajioiiaamokaaW.PrintLast Go.Proofs.YtbajioiiaamokaaW.PrintMore
set_option linter.unusedVariables false
set_option linter.unusedSimpArgs false
attribute [-go_sem] Instr.build
theorem slotCopy_any (x:SlT) (A:Option Addr) (c:Nat) (hl:x.wrap.length≤100000000000) (w:World) (hC:Kd.C (Kd.int .u8) w A x.wrap.length x.wrap) (hc:x.wrap.length≤c) :
  Calls Try.prog 44 #[.agg (slcl x A c).toArray] w fun e w'=>∃ a n,e=.returned (.agg (slcl x a n).toArray)∧w'.ownsRow w.heap.size 5 1 (.slice a x.wrap.length n) x.wrap.length (nums .u8 x.wrap)∧Below w.heap.size w w':=by
 refine (slot_Copy.calls x.used x.size x.epoch x.count A c x.wrap x.used x.size x.epoch x.count x.wrap w hC hc ?_).mono ?_
 ·unfold slot_Copy.f
  rw[Option.bind_some,if_pos (by rw[List.length_nil];omega),List.nil_append]
 rintro e w' ⟨v,rfl,hR,hb⟩
 obtain ⟨a,n,rfl⟩:=Kd.R_slice hR
 exact ⟨a,n,rfl,nums_of_R hR,hb⟩
def CpLoop (w:World) (r:RcT) (k:Nat) (w':World):Prop:=
 ∃ A c,w'.heap[w.heap.size]?=some (.cells (rcl r A c).toArray 28 (0,0))∧(∀ j,j<k+2→w'.ownsRow w.heap.size 5 1 (.slice (A j) (rlist r j).length (c j)) (rlist r j).length (nums .u8 (rlist r j))) ∧
  (0<k→∀ i,(Value.slice (A 2) (rlist r 2).length (c 2)).ownBlock=some i→(Value.slice (A 0) r.salt.length (c 0)).ownBlock≠some i) ∧
  w'.heap[w.heap.size+1]?=some (.cells zRc 28 (0,0))∧Below w.heap.size w w'
def CpRes (w:World) (r:RcT) (e:Ending) (w':World):Prop:=
 ∃ A c,e=.returned (.agg (rcl r A c).toArray)∧RcO w.heap.size w' r A c∧(∀ i,(Value.slice (A 2) (rlist r 2).length (c 2)).ownBlock=some i→(Value.slice (A 0) r.salt.length (c 0)).ownBlock≠some i)∧Below w.heap.size w w'
theorem size5c:(Try.prog.info? 5).map (·.size)=some 1:=by kernel_rfl
set_option maxHeartbeats 8000000 in
set_option maxRecDepth 100000 in
theorem recCopy_any (r:RcT) (A:Nat→Option Addr) (c:Nat→Nat) (w:World) (hV:RcV w r A c) (hlen:∀ j,j<6→(rlist r j).length≤100000000000) :
  Calls Try.prog 12 #[.agg (rcl r A c).toArray] w (CpRes w r):=by
 obtain ⟨hz,-⟩:=zero_of_info (P:=Try.prog) infoRc
 obtain ⟨hzS,-⟩:=zero_of_info (P:=Try.prog) infoSl
 obtain ⟨CA,hCA⟩:∃ CA,CA=(rcl r A c).toArray:=⟨_,rfl⟩
 obtain ⟨Z,hZ⟩:∃ Z:Array Value,Z=zRc:=⟨_,rfl⟩
 obtain ⟨ZS,hZS⟩:∃ Z:Array Value,Z=zSl:=⟨_,rfl⟩
 rw[← hZ] at hz
 rw[← hZS] at hzS
 obtain ⟨W1,hW1⟩:∃ W1,W1=(w.alloc (.cells CA 28 (0,0))).alloc (.cells Z 28 (0,0)):=⟨_,rfl⟩
 have ha:=Lib.hid (show W1.heap[w.heap.size]?=some (.cells CA 28 (0,0)) by rw[hW1,heap_skip _ _ _ (by simp)];exact heap_alloc_last _ _)
 have hbk:=Lib.hid (show W1.heap[w.heap.size+1]?=some (.cells Z 28 (0,0)) by rw[hW1];have:=heap_alloc_last (w.alloc (.cells CA 28 (0,0))) (.cells Z 28 (0,0));simpa using this)
 have b1:=Lib.hid (show Below w.heap.size w W1 by rw[hW1];exact below_alloc ((Below.refl _ _).alloc (Nat.le_refl _) _) _)
 obtain ⟨LS,hLS⟩:∃ L,L=r.salt:=⟨_,rfl⟩
 obtain ⟨LC,hLC⟩:∃ L,L=r.check:=⟨_,rfl⟩
 have hcel:=Lib.hid (fun (W:World) (h:W.heap[w.heap.size]?=some (.cells CA 28 (0,0)))=>rc_head (r:=r) (A:=A) (c:=c) (by rw[hCA] at h;exact h))
 have hst:=Lib.hid (fun (W:World) (hW:Below w.heap.size w W)=>show Src Try.prog 1 23 (.slice (A 0) r.salt.length (c 0)) r.salt.length (r.salt.map (Value.int .u8)) W from src_of_C (Kd.C_below (hV 0 (by omega)).1 hW))
 have hck:=Lib.hid (fun (W:World) (hW:Below w.heap.size w W)=>show Src Try.prog 1 23 (.slice (A 1) r.check.length (c 1)) r.check.length (r.check.map (Value.int .u8)) W from src_of_C (Kd.C_below (hV 1 (by omega)).1 hW))
 have hls:=Lib.hid (show LS.length≤100000000000 by rw[hLS];exact hlen 0 (by omega))
 have hlc:=Lib.hid (show LC.length≤100000000000 by rw[hLC];exact hlen 1 (by omega))
 have hcp:=Lib.hid (fun (W:World) (k:Nat) (hk:k<4) (hW:Below w.heap.size w W)=>slotCopy_any (r.s k) (A (k+2)) (c (k+2)) (hlen (k+2) (by omega)) W (Kd.C_below (hV (k+2) (by omega)).1 hW) (hV (k+2) (by omega)).2)
 have hix:=Lib.hid (fun (k:Nat) (hk:k<4) (W:World)=>show (Instr.index 26 (.agg (rcs r.s A c).toArray) (.int .i64 (k:Int))).run Try.prog W=.ok (.agg (slcl (r.s k) (A (k+2)) (c (k+2))).toArray) W from by
  rw[run_index_row (P:=Try.prog) 26 25 4 5 _ k Try.underlying26 szSl _ Try.underlying25 rfl hk W,rcs_extract r.s A c k hk])
 obtain ⟨Ls,hLs⟩:∃ Ls,Ls=rcs r.s A c:=⟨_,rfl⟩
 have hszL:=Lib.hid (show (Try.prog.info? 26).map (·.size)=some Ls.length by rw[hLs];exact szS4)
 have hrg:=Lib.hid (fun (W:World) (A':Nat→Option Addr) (c':Nat→Nat) (e2:∀ j,A' (j+2)=A (j+2)∧c' (j+2)=c (j+2)) (h:W.heap[w.heap.size]?=some (.cells (rcl r A' c').toArray 28 (0,0)))=>show W.rangeAt w.heap.size 5 Ls by
  have:=rc_slots h
  have e:rcs r.s A' c'=rcs r.s A c:=by
   unfold rcs
   rw[(e2 0).1,(e2 0).2,(e2 1).1,(e2 1).2,(e2 2).1,(e2 2).2,(e2 3).1,(e2 3).2]
  rw[hLs,← e];exact this)
 rw[← hLs] at hix
 rw[← hLS,← hLC] at hcel
 rw[← hLS] at hst
 rw[← hLC] at hck
 rw[← hCA]
 have hCA':=Lib.hid hCA
 have hZ':=Lib.hid hZ
 have hZS':=Lib.hid hZS
 have hLS':=Lib.hid hLS
 have hLC':=Lib.hid hLC
 have hszZ:=Lib.hid (show (Try.prog.info? 28).map (·.size)=some Z.size by rw[hZ];exact szRc)
 have size5':=size5c
 clear hV hlen hCA hZ hZS hLS hLC hLs
 go_enter Try.func12,Try.ntmps12
 go_upto_region 1 with fail
 rw[← hW1]
 clear hW1
 go_cut [1] (fun v w'=>v=.pointer (some ⟨w.heap.size,0,none⟩)∧∃ AS cS AC cC,w'.heap[w.heap.size]?=some (.cells ((CA.setIfInBounds 2 (.slice AS LS.length cS)).setIfInBounds 4 (.slice AC LC.length cC)) 28 (0,0))∧w'.ownsRow w.heap.size 5 1 (.slice AS LS.length cS) LS.length (nums .u8 LS)∧w'.ownsRow w.heap.size 5 1 (.slice AC LC.length cC) LC.length (nums .u8 LC)∧w'.heap[w.heap.size+1]?=some (.cells Z 28 (0,0))∧Below w.heap.size w w')
 case first=>
  refine start_ (n:=12) (S:=fun w'=>Below w.heap.size w w'∧w'.heap[w.heap.size]?=some (.cells CA 28 (0,0))∧w'.heap[w.heap.size+1]?=some (.cells Z 28 (0,0))) (ds:=[9,11]) #[false,false,false,false,false,false,false,false,false,false,false,false] (by kernel_rfl) rfl rfl (by exact ⟨below_drew b1.out,ha.out,hbk.out⟩) (fun hHeld=>?_)
  refine pure_ (i:=1) (N:=some 6) (v:=?_) (a':=?_) #[false,true,false,false,false,false,false,false,false,false,false,false] rfl rfl (by kernel_rfl) (fun _ _ _ h=>h) (Or.inl ⟨by rfl,?_⟩) ?_ ?_
  rotate_left
  ·intro w';go_simp;with_reducible rfl
  rotate_left
  ·simp only[Act.put,sZ0,sZ1,sZ2,i64_w,i32_w];rfl
  refine take_ (i:=2) (N:=some 7) (v:=?_) (a':=?_) #[false,true,true,false,false,false,false,false,false,false,false,false] rfl rfl (by kernel_rfl) (fun _ _ _ h=>h) (Or.inl ⟨by rfl,?_⟩) hHeld ?_ ?_
  rotate_left
  ·intro w' hS
   have hq:=(hcel.out w' hS.2.1).2.2.1
   go_simp;with_reducible rfl
  rotate_left
  ·simp only[Act.put,sZ0,sZ1,sZ2,i64_w,i32_w];rfl
  refine pure_ (i:=5) (N:=some 10) (v:=?_) (a':=?_) #[false,true,true,false,false,true,false,false,false,false,false,false] rfl rfl (by kernel_rfl) (fun _ _ _ h=>h) (Or.inl ⟨by rfl,?_⟩) ?_ ?_
  rotate_left
  ·intro w';go_simp;with_reducible rfl
  rotate_left
  ·simp only[Act.put,sZ0,sZ1,sZ2,i64_w,i32_w];rfl
  refine take_ (i:=6) (N:=some 11) (v:=?_) (a':=?_) #[false,true,true,false,false,true,true,false,false,false,false,false] rfl rfl (by kernel_rfl) (fun _ _ _ h=>h) (Or.inl ⟨by rfl,?_⟩) hHeld ?_ ?_
  rotate_left
  ·intro w' hS
   have hq:=(hcel.out w' hS.2.1).2.2.2.2
   go_simp;with_reducible rfl
  rotate_left
  ·simp only[Act.put,sZ0,sZ1,sZ2,i64_w,i32_w];rfl
  refine two_ (i:=0) (Ni:=some 5) (j:=4) (Nj:=some 9) #[true,true,true,false,false,true,true,false,false,false,false,false] #[false,true,true,false,true,true,true,false,false,false,false,false] rfl rfl rfl rfl (by kernel_rfl) (by decide) (by decide) (fun K hK=>?_) (fun K hK=>?_)
  ·skip
   refine step_empty 23 5 (by rfl) rfl (by rfl) Try.underlying23 size5' ?_
   intro gE wn hE0 hb
   (try have hNE:=Lib.hid (show gF≠gE from Nat.ne_of_lt (Nat.lt_of_lt_of_le (hF.out.lt gF rfl).2 (hE0.lt gE rfl).1)))
   have hE:=Lib.hid (own_less hE0 hHeld.1.size)
   refine hK.out _ _ ⟨below_step hHeld.1 hb,heap_below hHeld.2.1 hb,heap_below hHeld.2.2 hb⟩ (fun hHeld=>?_)
   (try have hF:=Lib.hid (own_move hF.out (fun k hk=>hb.block k (hF.out.lt k hk).2)))
   clear hb hE0
   clear hK K;refine norm_ (a':=?_) ?_ ?_
   rotate_left
   ·show Act.put _ (some 5) _=_
    simp only[Act.put,sZ0,sZ1,sZ2,i64_w,i32_w];rfl
   refine two_ (i:=3) (Ni:=some 8) (j:=4) (Nj:=some 9) #[true,true,true,true,false,true,true,false,false,false,false,false] #[true,true,true,false,true,true,true,false,false,false,false,false] rfl rfl rfl rfl (by kernel_rfl) (by decide) (by decide) (fun K hK=>?_) (fun K hK=>?_)
   ·skip
    refine step_append1 w.heap.size (.tmp 5) (.tmp 7) 23 (.slice (some ⟨gE,0,none⟩) 0 0) (.slice (A 0) LS.length (c 0)) LS (by rfl) rfl (by rfl) (by rfl) (by rfl) (hst.out _ hHeld.1) hE.out hHeld.1.size (by have:=hls.out;omega) ?_
    intro AS cS wn hR0 hgr hat hbg
    (try have hNR:=Lib.hid (show ∀ k,(Value.slice AS LS.length cS).ownBlock=some k→k≠gF from fun k hk=>(hat k hk).elim (fun h1=>fun e=>hNE.out (e.symm.trans (Option.some.inj (show some gE=some k from h1)).symm)) (fun h1=>Nat.ne_of_gt (Nat.lt_of_lt_of_le (hF.out.lt gF rfl).2 h1))))
    (try have hF:=Lib.hid (own_move hF.out (fun k hk=>hgr.block k (hF.out.lt k hk).2 (fun e=>hNE.out ((Option.some.inj (show some gF=some k from hk)).trans (Option.some.inj (show some k=some gE from e)))))))
    refine hK.out _ _ ⟨hbg _ _ (Nat.le_refl _) hHeld.1,blk_grown hHeld.2.1 hgr (fun e=>own_ne hE.out hHeld.2.1 (by decide) _ e.symm rfl),blk_grown hHeld.2.2 hgr (fun e=>own_ne hE.out hHeld.2.2 (by decide) _ e.symm rfl)⟩ (fun hHeld=>?_)
    have hR:=Lib.hid hR0
    clear hgr hbg hR0 hat
    clear hK K;refine norm_ (a':=?_) ?_ ?_
    rotate_left
    ·show Act.put _ (some 8) _=_
     simp only[Act.put,sZ0,sZ1,sZ2,i64_w,i32_w];rfl
    refine pure_ (i:=8) (N:=some 13) (v:=?_) (a':=?_) #[true,true,true,true,false,true,true,false,true,false,false,false] rfl rfl (by kernel_rfl) (fun _ _ _ h=>h) (Or.inl ⟨by rfl,?_⟩) ?_ ?_
    rotate_left
    ·intro w';go_simp;with_reducible rfl
    rotate_left
    ·simp only[Act.put,sZ0,sZ1,sZ2,i64_w,i32_w];rfl
    refine one_ (i:=4) (N:=some 9) #[true,true,true,true,true,true,true,false,true,false,false,false] rfl rfl (by kernel_rfl) (by decide) (fun K hK=>?_)
    refine step_empty 23 5 (by rfl) rfl (by rfl) Try.underlying23 size5' ?_
    intro gF wn hF0 hb
    (try have hNE:=Lib.hid (show gF≠gE from Nat.ne_of_gt (Nat.lt_of_lt_of_le (hE.out.lt gE rfl).2 (hF0.lt gF rfl).1)))
    (try have hNR:=Lib.hid (show ∀ k,(Value.slice AS LS.length cS).ownBlock=some k→k≠gF from fun k hk=>Nat.ne_of_lt (Nat.lt_of_lt_of_le (hR.out.lt k hk).2 (hF0.lt gF rfl).1)))
    have hF:=Lib.hid (own_less hF0 hHeld.1.size)
    refine hK.out _ _ ⟨below_step hHeld.1 hb,heap_below hHeld.2.1 hb,heap_below hHeld.2.2 hb⟩ (fun hHeld=>?_)
    (try have hE:=Lib.hid (own_move hE.out (fun k hk=>hb.block k (hE.out.lt k hk).2)))
    (try have hR:=Lib.hid (own_move hR.out (fun k hk=>hb.block k (hR.out.lt k hk).2)))
    clear hb hF0
    clear hK K;refine norm_ (a':=?_) ?_ ?_
    rotate_left
    ·show Act.put _ (some 9) _=_
     simp only[Act.put,sZ0,sZ1,sZ2,i64_w,i32_w];rfl
    refine one_ (i:=7) (N:=some 12) #[true,true,true,true,true,true,true,true,true,false,false,false] rfl rfl (by kernel_rfl) (by decide) (fun K hK=>?_)
    refine step_append1 w.heap.size (.tmp 9) (.tmp 11) 23 (.slice (some ⟨gF,0,none⟩) 0 0) (.slice (A 1) LC.length (c 1)) LC (by rfl) rfl (by rfl) (by rfl) (by rfl) (hck.out _ hHeld.1) hF.out hHeld.1.size (by have:=hlc.out;omega) ?_
    intro AC cC wn hT0 hgr hat hbg
    refine hK.out _ _ ⟨hbg _ _ (Nat.le_refl _) hHeld.1,blk_grown hHeld.2.1 hgr (fun e=>own_ne hF.out hHeld.2.1 (by decide) _ e.symm rfl),blk_grown hHeld.2.2 hgr (fun e=>own_ne hF.out hHeld.2.2 (by decide) _ e.symm rfl)⟩ (fun hHeld=>?_)
    have hR:=Lib.hid (own_move hR.out (fun k hk=>hgr.block k (hR.out.lt k hk).2 (fun e=>hNR.out k hk (by simpa [Value.ownBlock] using e))))
    have hT:=Lib.hid hT0
    have hH:=Lib.hid hHeld
    clear hgr hbg hT0 hat
    clear hK K;refine norm_ (a':=?_) ?_ ?_
    rotate_left
    ·show Act.put _ (some 12) _=_
     simp only[Act.put,sZ0,sZ1,sZ2,i64_w,i32_w];rfl
    refine last_ (i:=9) (N:=none) #[true,true,true,true,true,true,true,true,true,true,false,false] rfl rfl (by kernel_rfl) (by decide) (fun K hK=>?_)
    refine step_setslice (.tmp 13) (.tmp 8) w.heap.size 2 AS LS.length cS 28 _ (by rfl) rfl (by rfl) (by rfl) (by rfl) hH.out.2.1 (by rw[hCA'.out];show 2<25;omega) ?_
    intro wn hA1 hbut hbel
    refine hK.out _ _ ?_
    have hR:=Lib.hid (own_move hR.out (fun k hk=>hbut.2 k (hR.out.lt k hk).2 (fun e=>own_ne hR.out hH.out.2.1 (by decide) k hk e)))
    have hT:=Lib.hid (own_move hT.out (fun k hk=>hbut.2 k (hT.out.lt k hk).2 (fun e=>own_ne hT.out hH.out.2.1 (by decide) k hk e)))
    have hZ1:=Lib.hid ((hbut.2 _ (lt_of_heap hH.out.2.2) (Nat.succ_ne_self _)).trans hH.out.2.2)
    have hB1:=Lib.hid (hH.out.1.trans (hbel _ (Nat.le_refl _)))
    have hA1:=Lib.hid hA1
    clear hbut hbel hH
    clear hK K
    refine pure_ (i:=10) (N:=some 14) (v:=?_) (a':=?_) #[true,true,true,true,true,true,true,true,true,true,true,false] rfl rfl (by kernel_rfl) (fun _ _ _ h=>h) (Or.inl ⟨by rfl,?_⟩) ?_ ?_
    rotate_left
    ·intro w';go_simp;with_reducible rfl
    rotate_left
    ·simp only[Act.put,sZ0,sZ1,sZ2,i64_w,i32_w];rfl
    refine last_ (i:=11) (N:=none) #[true,true,true,true,true,true,true,true,true,true,true,true] rfl rfl (by kernel_rfl) (by decide) (fun K hK=>?_)
    refine step_setslice (.tmp 14) (.tmp 12) w.heap.size 4 AC LC.length cC 28 _ (by rfl) rfl (by rfl) (by rfl) (by rfl) hA1.out (by rw[hCA'.out];show 4<25;omega) ?_
    intro wn hA2 hbut hbel
    refine hK.out _ _ ?_
    have hR:=own_move hR.out (fun k hk=>hbut.2 k (hR.out.lt k hk).2 (fun e=>own_ne hR.out hA1.out (by decide) k hk e))
    have hT:=own_move hT.out (fun k hk=>hbut.2 k (hT.out.lt k hk).2 (fun e=>own_ne hT.out hA1.out (by decide) k hk e))
    have hfin':=Lib.hid (⟨AS,cS,AC,cC,hA2,hR,hT,(hbut.2 _ (lt_of_heap hZ1.out) (Nat.succ_ne_self _)).trans hZ1.out,hB1.out.trans (hbel _ (Nat.le_refl _))⟩:∃ AS cS AC cC,wn.heap[w.heap.size]?=some (.cells ((CA.setIfInBounds 2 (.slice AS LS.length cS)).setIfInBounds 4 (.slice AC LC.length cC)) 28 (0,0))∧wn.ownsRow w.heap.size 5 1 (.slice AS LS.length cS) LS.length (nums .u8 LS)∧wn.ownsRow w.heap.size 5 1 (.slice AC LC.length cC) LC.length (nums .u8 LC)∧wn.heap[w.heap.size+1]?=some (.cells Z 28 (0,0))∧Below w.heap.size w wn)
    clear hA2 hbut hbel hR hT
    clear hK K;refine done_ (by kernel_rfl) ?_
    go_step;go_step
    go_meet
    exact ⟨rfl,hfin'.out⟩
   refine step_empty 23 5 (by rfl) rfl (by rfl) Try.underlying23 size5' ?_
   intro gF wn hF0 hb
   (try have hNE:=Lib.hid (show gF≠gE from Nat.ne_of_gt (Nat.lt_of_lt_of_le (hE.out.lt gE rfl).2 (hF0.lt gF rfl).1)))
   (try have hNR:=Lib.hid (show ∀ k,(Value.slice AS LS.length cS).ownBlock=some k→k≠gF from fun k hk=>Nat.ne_of_lt (Nat.lt_of_lt_of_le (hR.out.lt k hk).2 (hF0.lt gF rfl).1)))
   have hF:=Lib.hid (own_less hF0 hHeld.1.size)
   refine hK.out _ _ ⟨below_step hHeld.1 hb,heap_below hHeld.2.1 hb,heap_below hHeld.2.2 hb⟩ (fun hHeld=>?_)
   (try have hE:=Lib.hid (own_move hE.out (fun k hk=>hb.block k (hE.out.lt k hk).2)))
   (try have hR:=Lib.hid (own_move hR.out (fun k hk=>hb.block k (hR.out.lt k hk).2)))
   clear hb hF0
   clear hK K;refine norm_ (a':=?_) ?_ ?_
   rotate_left
   ·show Act.put _ (some 9) _=_
    simp only[Act.put,sZ0,sZ1,sZ2,i64_w,i32_w];rfl
   refine one_ (i:=3) (N:=some 8) #[true,true,true,true,true,true,true,false,false,false,false,false] rfl rfl (by kernel_rfl) (by decide) (fun K hK=>?_)
   refine step_append1 w.heap.size (.tmp 5) (.tmp 7) 23 (.slice (some ⟨gE,0,none⟩) 0 0) (.slice (A 0) LS.length (c 0)) LS (by rfl) rfl (by rfl) (by rfl) (by rfl) (hst.out _ hHeld.1) hE.out hHeld.1.size (by have:=hls.out;omega) ?_
   intro AS cS wn hR0 hgr hat hbg
   (try have hNR:=Lib.hid (show ∀ k,(Value.slice AS LS.length cS).ownBlock=some k→k≠gF from fun k hk=>(hat k hk).elim (fun h1=>fun e=>hNE.out (e.symm.trans (Option.some.inj (show some gE=some k from h1)).symm)) (fun h1=>Nat.ne_of_gt (Nat.lt_of_lt_of_le (hF.out.lt gF rfl).2 h1))))
   (try have hF:=Lib.hid (own_move hF.out (fun k hk=>hgr.block k (hF.out.lt k hk).2 (fun e=>hNE.out ((Option.some.inj (show some gF=some k from hk)).trans (Option.some.inj (show some k=some gE from e)))))))
   refine hK.out _ _ ⟨hbg _ _ (Nat.le_refl _) hHeld.1,blk_grown hHeld.2.1 hgr (fun e=>own_ne hE.out hHeld.2.1 (by decide) _ e.symm rfl),blk_grown hHeld.2.2 hgr (fun e=>own_ne hE.out hHeld.2.2 (by decide) _ e.symm rfl)⟩ (fun hHeld=>?_)
   have hR:=Lib.hid hR0
   clear hgr hbg hR0 hat
   clear hK K;refine norm_ (a':=?_) ?_ ?_
   rotate_left
   ·show Act.put _ (some 8) _=_
    simp only[Act.put,sZ0,sZ1,sZ2,i64_w,i32_w];rfl
   refine pure_ (i:=8) (N:=some 13) (v:=?_) (a':=?_) #[true,true,true,true,true,true,true,false,true,false,false,false] rfl rfl (by kernel_rfl) (fun _ _ _ h=>h) (Or.inl ⟨by rfl,?_⟩) ?_ ?_
   rotate_left
   ·intro w';go_simp;with_reducible rfl
   rotate_left
   ·simp only[Act.put,sZ0,sZ1,sZ2,i64_w,i32_w];rfl
   refine one_ (i:=7) (N:=some 12) #[true,true,true,true,true,true,true,true,true,false,false,false] rfl rfl (by kernel_rfl) (by decide) (fun K hK=>?_)
   refine step_append1 w.heap.size (.tmp 9) (.tmp 11) 23 (.slice (some ⟨gF,0,none⟩) 0 0) (.slice (A 1) LC.length (c 1)) LC (by rfl) rfl (by rfl) (by rfl) (by rfl) (hck.out _ hHeld.1) hF.out hHeld.1.size (by have:=hlc.out;omega) ?_
   intro AC cC wn hT0 hgr hat hbg
   refine hK.out _ _ ⟨hbg _ _ (Nat.le_refl _) hHeld.1,blk_grown hHeld.2.1 hgr (fun e=>own_ne hF.out hHeld.2.1 (by decide) _ e.symm rfl),blk_grown hHeld.2.2 hgr (fun e=>own_ne hF.out hHeld.2.2 (by decide) _ e.symm rfl)⟩ (fun hHeld=>?_)
   have hR:=Lib.hid (own_move hR.out (fun k hk=>hgr.block k (hR.out.lt k hk).2 (fun e=>hNR.out k hk (by simpa [Value.ownBlock] using e))))
   have hT:=Lib.hid hT0
   have hH:=Lib.hid hHeld
   clear hgr hbg hT0 hat
   clear hK K;refine norm_ (a':=?_) ?_ ?_
   rotate_left
   ·show Act.put _ (some 12) _=_
    simp only[Act.put,sZ0,sZ1,sZ2,i64_w,i32_w];rfl
   refine last_ (i:=9) (N:=none) #[true,true,true,true,true,true,true,true,true,true,false,false] rfl rfl (by kernel_rfl) (by decide) (fun K hK=>?_)
   refine step_setslice (.tmp 13) (.tmp 8) w.heap.size 2 AS LS.length cS 28 _ (by rfl) rfl (by rfl) (by rfl) (by rfl) hH.out.2.1 (by rw[hCA'.out];show 2<25;omega) ?_
   intro wn hA1 hbut hbel
   refine hK.out _ _ ?_
   have hR:=Lib.hid (own_move hR.out (fun k hk=>hbut.2 k (hR.out.lt k hk).2 (fun e=>own_ne hR.out hH.out.2.1 (by decide) k hk e)))
   have hT:=Lib.hid (own_move hT.out (fun k hk=>hbut.2 k (hT.out.lt k hk).2 (fun e=>own_ne hT.out hH.out.2.1 (by decide) k hk e)))
   have hZ1:=Lib.hid ((hbut.2 _ (lt_of_heap hH.out.2.2) (Nat.succ_ne_self _)).trans hH.out.2.2)
   have hB1:=Lib.hid (hH.out.1.trans (hbel _ (Nat.le_refl _)))
   have hA1:=Lib.hid hA1
   clear hbut hbel hH
   clear hK K
   refine pure_ (i:=10) (N:=some 14) (v:=?_) (a':=?_) #[true,true,true,true,true,true,true,true,true,true,true,false] rfl rfl (by kernel_rfl) (fun _ _ _ h=>h) (Or.inl ⟨by rfl,?_⟩) ?_ ?_
   rotate_left
   ·intro w';go_simp;with_reducible rfl
   rotate_left
   ·simp only[Act.put,sZ0,sZ1,sZ2,i64_w,i32_w];rfl
   refine last_ (i:=11) (N:=none) #[true,true,true,true,true,true,true,true,true,true,true,true] rfl rfl (by kernel_rfl) (by decide) (fun K hK=>?_)
   refine step_setslice (.tmp 14) (.tmp 12) w.heap.size 4 AC LC.length cC 28 _ (by rfl) rfl (by rfl) (by rfl) (by rfl) hA1.out (by rw[hCA'.out];show 4<25;omega) ?_
   intro wn hA2 hbut hbel
   refine hK.out _ _ ?_
   have hR:=own_move hR.out (fun k hk=>hbut.2 k (hR.out.lt k hk).2 (fun e=>own_ne hR.out hA1.out (by decide) k hk e))
   have hT:=own_move hT.out (fun k hk=>hbut.2 k (hT.out.lt k hk).2 (fun e=>own_ne hT.out hA1.out (by decide) k hk e))
   have hfin':=Lib.hid (⟨AS,cS,AC,cC,hA2,hR,hT,(hbut.2 _ (lt_of_heap hZ1.out) (Nat.succ_ne_self _)).trans hZ1.out,hB1.out.trans (hbel _ (Nat.le_refl _))⟩:∃ AS cS AC cC,wn.heap[w.heap.size]?=some (.cells ((CA.setIfInBounds 2 (.slice AS LS.length cS)).setIfInBounds 4 (.slice AC LC.length cC)) 28 (0,0))∧wn.ownsRow w.heap.size 5 1 (.slice AS LS.length cS) LS.length (nums .u8 LS)∧wn.ownsRow w.heap.size 5 1 (.slice AC LC.length cC) LC.length (nums .u8 LC)∧wn.heap[w.heap.size+1]?=some (.cells Z 28 (0,0))∧Below w.heap.size w wn)
   clear hA2 hbut hbel hR hT
   clear hK K;refine done_ (by kernel_rfl) ?_
   go_step;go_step
   go_meet
   exact ⟨rfl,hfin'.out⟩
  refine step_empty 23 5 (by rfl) rfl (by rfl) Try.underlying23 size5' ?_
  intro gF wn hF0 hb
  (try have hNE:=Lib.hid (show gF≠gE from Nat.ne_of_gt (Nat.lt_of_lt_of_le (hE.out.lt gE rfl).2 (hF0.lt gF rfl).1)))
  (try have hNR:=Lib.hid (show ∀ k,(Value.slice AS LS.length cS).ownBlock=some k→k≠gF from fun k hk=>Nat.ne_of_lt (Nat.lt_of_lt_of_le (hR.out.lt k hk).2 (hF0.lt gF rfl).1)))
  have hF:=Lib.hid (own_less hF0 hHeld.1.size)
  refine hK.out _ _ ⟨below_step hHeld.1 hb,heap_below hHeld.2.1 hb,heap_below hHeld.2.2 hb⟩ (fun hHeld=>?_)
  (try have hE:=Lib.hid (own_move hE.out (fun k hk=>hb.block k (hE.out.lt k hk).2)))
  (try have hR:=Lib.hid (own_move hR.out (fun k hk=>hb.block k (hR.out.lt k hk).2)))
  clear hb hF0
  clear hK K;refine norm_ (a':=?_) ?_ ?_
  rotate_left
  ·show Act.put _ (some 9) _=_
   simp only[Act.put,sZ0,sZ1,sZ2,i64_w,i32_w];rfl
  refine one_ (i:=0) (N:=some 5) #[true,true,true,false,true,true,true,false,false,false,false,false] rfl rfl (by kernel_rfl) (by decide) (fun K hK=>?_)
  refine step_empty 23 5 (by rfl) rfl (by rfl) Try.underlying23 size5' ?_
  intro gE wn hE0 hb
  (try have hNE:=Lib.hid (show gF≠gE from Nat.ne_of_lt (Nat.lt_of_lt_of_le (hF.out.lt gF rfl).2 (hE0.lt gE rfl).1)))
  have hE:=Lib.hid (own_less hE0 hHeld.1.size)
  refine hK.out _ _ ⟨below_step hHeld.1 hb,heap_below hHeld.2.1 hb,heap_below hHeld.2.2 hb⟩ (fun hHeld=>?_)
  (try have hF:=Lib.hid (own_move hF.out (fun k hk=>hb.block k (hF.out.lt k hk).2)))
  clear hb hE0
  clear hK K;refine norm_ (a':=?_) ?_ ?_
  rotate_left
  ·show Act.put _ (some 5) _=_
   simp only[Act.put,sZ0,sZ1,sZ2,i64_w,i32_w];rfl
  refine one_ (i:=3) (N:=some 8) #[true,true,true,true,true,true,true,false,false,false,false,false] rfl rfl (by kernel_rfl) (by decide) (fun K hK=>?_)
  refine step_append1 w.heap.size (.tmp 5) (.tmp 7) 23 (.slice (some ⟨gE,0,none⟩) 0 0) (.slice (A 0) LS.length (c 0)) LS (by rfl) rfl (by rfl) (by rfl) (by rfl) (hst.out _ hHeld.1) hE.out hHeld.1.size (by have:=hls.out;omega) ?_
  intro AS cS wn hR0 hgr hat hbg
  (try have hNR:=Lib.hid (show ∀ k,(Value.slice AS LS.length cS).ownBlock=some k→k≠gF from fun k hk=>(hat k hk).elim (fun h1=>fun e=>hNE.out (e.symm.trans (Option.some.inj (show some gE=some k from h1)).symm)) (fun h1=>Nat.ne_of_gt (Nat.lt_of_lt_of_le (hF.out.lt gF rfl).2 h1))))
  (try have hF:=Lib.hid (own_move hF.out (fun k hk=>hgr.block k (hF.out.lt k hk).2 (fun e=>hNE.out ((Option.some.inj (show some gF=some k from hk)).trans (Option.some.inj (show some k=some gE from e)))))))
  refine hK.out _ _ ⟨hbg _ _ (Nat.le_refl _) hHeld.1,blk_grown hHeld.2.1 hgr (fun e=>own_ne hE.out hHeld.2.1 (by decide) _ e.symm rfl),blk_grown hHeld.2.2 hgr (fun e=>own_ne hE.out hHeld.2.2 (by decide) _ e.symm rfl)⟩ (fun hHeld=>?_)
  have hR:=Lib.hid hR0
  clear hgr hbg hR0 hat
  clear hK K;refine norm_ (a':=?_) ?_ ?_
  rotate_left
  ·show Act.put _ (some 8) _=_
   simp only[Act.put,sZ0,sZ1,sZ2,i64_w,i32_w];rfl
  refine pure_ (i:=8) (N:=some 13) (v:=?_) (a':=?_) #[true,true,true,true,true,true,true,false,true,false,false,false] rfl rfl (by kernel_rfl) (fun _ _ _ h=>h) (Or.inl ⟨by rfl,?_⟩) ?_ ?_
  rotate_left
  ·intro w';go_simp;with_reducible rfl
  rotate_left
  ·simp only[Act.put,sZ0,sZ1,sZ2,i64_w,i32_w];rfl
  refine one_ (i:=7) (N:=some 12) #[true,true,true,true,true,true,true,true,true,false,false,false] rfl rfl (by kernel_rfl) (by decide) (fun K hK=>?_)
  refine step_append1 w.heap.size (.tmp 9) (.tmp 11) 23 (.slice (some ⟨gF,0,none⟩) 0 0) (.slice (A 1) LC.length (c 1)) LC (by rfl) rfl (by rfl) (by rfl) (by rfl) (hck.out _ hHeld.1) hF.out hHeld.1.size (by have:=hlc.out;omega) ?_
  intro AC cC wn hT0 hgr hat hbg
  refine hK.out _ _ ⟨hbg _ _ (Nat.le_refl _) hHeld.1,blk_grown hHeld.2.1 hgr (fun e=>own_ne hF.out hHeld.2.1 (by decide) _ e.symm rfl),blk_grown hHeld.2.2 hgr (fun e=>own_ne hF.out hHeld.2.2 (by decide) _ e.symm rfl)⟩ (fun hHeld=>?_)
  have hR:=Lib.hid (own_move hR.out (fun k hk=>hgr.block k (hR.out.lt k hk).2 (fun e=>hNR.out k hk (by simpa [Value.ownBlock] using e))))
  have hT:=Lib.hid hT0
  have hH:=Lib.hid hHeld
  clear hgr hbg hT0 hat
  clear hK K;refine norm_ (a':=?_) ?_ ?_
  rotate_left
  ·show Act.put _ (some 12) _=_
   simp only[Act.put,sZ0,sZ1,sZ2,i64_w,i32_w];rfl
  refine last_ (i:=9) (N:=none) #[true,true,true,true,true,true,true,true,true,true,false,false] rfl rfl (by kernel_rfl) (by decide) (fun K hK=>?_)
  refine step_setslice (.tmp 13) (.tmp 8) w.heap.size 2 AS LS.length cS 28 _ (by rfl) rfl (by rfl) (by rfl) (by rfl) hH.out.2.1 (by rw[hCA'.out];show 2<25;omega) ?_
  intro wn hA1 hbut hbel
  refine hK.out _ _ ?_
  have hR:=Lib.hid (own_move hR.out (fun k hk=>hbut.2 k (hR.out.lt k hk).2 (fun e=>own_ne hR.out hH.out.2.1 (by decide) k hk e)))
  have hT:=Lib.hid (own_move hT.out (fun k hk=>hbut.2 k (hT.out.lt k hk).2 (fun e=>own_ne hT.out hH.out.2.1 (by decide) k hk e)))
  have hZ1:=Lib.hid ((hbut.2 _ (lt_of_heap hH.out.2.2) (Nat.succ_ne_self _)).trans hH.out.2.2)
  have hB1:=Lib.hid (hH.out.1.trans (hbel _ (Nat.le_refl _)))
  have hA1:=Lib.hid hA1
  clear hbut hbel hH
  clear hK K
  refine pure_ (i:=10) (N:=some 14) (v:=?_) (a':=?_) #[true,true,true,true,true,true,true,true,true,true,true,false] rfl rfl (by kernel_rfl) (fun _ _ _ h=>h) (Or.inl ⟨by rfl,?_⟩) ?_ ?_
  rotate_left
  ·intro w';go_simp;with_reducible rfl
  rotate_left
  ·simp only[Act.put,sZ0,sZ1,sZ2,i64_w,i32_w];rfl
  refine last_ (i:=11) (N:=none) #[true,true,true,true,true,true,true,true,true,true,true,true] rfl rfl (by kernel_rfl) (by decide) (fun K hK=>?_)
  refine step_setslice (.tmp 14) (.tmp 12) w.heap.size 4 AC LC.length cC 28 _ (by rfl) rfl (by rfl) (by rfl) (by rfl) hA1.out (by rw[hCA'.out];show 4<25;omega) ?_
  intro wn hA2 hbut hbel
  refine hK.out _ _ ?_
  have hR:=own_move hR.out (fun k hk=>hbut.2 k (hR.out.lt k hk).2 (fun e=>own_ne hR.out hA1.out (by decide) k hk e))
  have hT:=own_move hT.out (fun k hk=>hbut.2 k (hT.out.lt k hk).2 (fun e=>own_ne hT.out hA1.out (by decide) k hk e))
  have hfin':=Lib.hid (⟨AS,cS,AC,cC,hA2,hR,hT,(hbut.2 _ (lt_of_heap hZ1.out) (Nat.succ_ne_self _)).trans hZ1.out,hB1.out.trans (hbel _ (Nat.le_refl _))⟩:∃ AS cS AC cC,wn.heap[w.heap.size]?=some (.cells ((CA.setIfInBounds 2 (.slice AS LS.length cS)).setIfInBounds 4 (.slice AC LC.length cC)) 28 (0,0))∧wn.ownsRow w.heap.size 5 1 (.slice AS LS.length cS) LS.length (nums .u8 LS)∧wn.ownsRow w.heap.size 5 1 (.slice AC LC.length cC) LC.length (nums .u8 LC)∧wn.heap[w.heap.size+1]?=some (.cells Z 28 (0,0))∧Below w.heap.size w wn)
  clear hA2 hbut hbel hR hT
  clear hK K;refine done_ (by kernel_rfl) ?_
  go_step;go_step
  go_meet
  exact ⟨rfl,hfin'.out⟩
 case rest=>
  obtain ⟨rfl,AS,cS,AC,cC,hg,hRS,hRC,hgZ,hbw⟩:=hcut
  have hg0:wc.heap[w.heap.size]?=some (.cells (rcl r (upd (upd A 0 AS) 1 AC) (upd (upd c 0 cS) 1 cC)).toArray 28 (0,0)):=by
   rw[hg,hCA'.out,hLS'.out,hLC'.out];rfl
  have hrg1:=Lib.hid (hrg.out wc _ _ (fun j=>⟨by rw[upd_other _ _ _ _ (by omega),upd_other _ _ _ _ (by omega)],by rw[upd_other _ _ _ _ (by omega),upd_other _ _ _ _ (by omega)]⟩) hg0)
  have hinit':=Lib.hid (show CpLoop w r 0 wc from ⟨_,_,hg0,fun j hj=>by
   match j,hj with
   |0,_=>rw[hLS'.out] at hRS;exact hRS
   |1,_=>rw[hLC'.out] at hRC;exact hRC,fun h=>absurd h (by omega),by rw[← hZ'.out];exact hgZ,hbw⟩)
  clear hg hg0 hRS hRC hgZ hbw ha hbk b1 hst hck hls hlc hcel hrg
  go_wp2_with (with_reducible refine wpList_load_mid rfl 26 _ rfl w.heap.size 5 rfl Ls _ hrg1.out Try.underlying26 rfl hszL.out ?_)
  clear hrg1
  go_loopw [3,4,17] (fun _ _ i wr=>∃ k:Nat,k≤4∧i=.int .i64 k∧CpLoop w r k wr) (fun _ _ i _=>4 - (intOf i).toNat)
  case atStart=>exact ⟨0,by omega,rfl,hinit'.out⟩
  case round=>
   obtain ⟨k,hk,rfl,As,cs,hg,hO,hne,hgZ,hbw⟩:=hrel
   have hg':=Lib.hid hg
   have hO':=Lib.hid hO
   have hne':=Lib.hid hne
   have hgZ':=Lib.hid hgZ
   have hbw':=Lib.hid hbw
   clear hg hO hne hgZ hbw hinit'
   by_cases hlt:k<4
   ·have q1:(k:Int)<4:=by omega
    have q2:(0:Int)≤(k:Int):=by omega
    have kw:IntKind.i64.wrap ((k:Int)+1)=(k:Int)+1:=by rw[IntKind.wrap_i64];omega
    have hk1:=Lib.hid hlt
    have hx:=hix.out k hlt wr
    have hr1:=Lib.hid (fun W hW=>hcp.out W k hk1.out hW)
    obtain ⟨CX,hCX⟩:∃ CX,CX=(slcl (r.s k) (A (k+2)) (c (k+2))).toArray:=⟨_,rfl⟩
    rw[← hCX] at hx hr1
    have hs1:=Lib.hid (show (Try.prog.info? 25).map (·.size)=some CX.size by rw[hCX];exact szSl)
    have ho1:=Lib.hid (show CX.all (·.oneCell')=true by rw[hCX];exact slcl_one _ _ _)
    have hz1:=Lib.hid (show ZS.size=CX.size by rw[hCX,hZS'.out];rfl)
    clear hCX hlt hk
    go_wp2_with (first
     |(with_reducible refine wpList_store_row rfl 25 _ _ rfl wr.heap.size CX rfl rfl 25 ZS (heap_alloc_last _ _) hs1.out hz1.out ho1.out ?_;have b12:=Lib.hid (below_setRow ((Below.refl wr.heap.size wr).alloc (Nat.le_refl _) (.cells ZS 25 (0,0))) (Nat.le_refl _) CX);have hk7:=Lib.hid (setRow_heap (wr.alloc (.cells ZS 25 (0,0))) wr.heap.size ZS CX 25 (0,0) (heap_alloc_last _ _));generalize (wr.alloc (.cells ZS 25 (0,0))).setRow wr.heap.size CX=w2 at *;have b2:=Lib.hid (below_step hbw'.out b12.out))
     |(with_reducible refine wpList_load_row rfl 25 _ rfl wr.heap.size rfl 25 CX (0,0) _ hk7.out Try.underlying25 rfl hs1.out ?_)
     |((with_reducible go_at_call 44);refine (hr1.out _ b2.out).mono ?_;rintro e w3 ⟨a,n,rfl,hox,hb⟩;obtain ⟨CY,hCY⟩:∃ CY,CY=(slcl (r.s k) a n).toArray:=⟨_,rfl⟩;rw[← hCY];have hs3:=Lib.hid (show (Try.prog.info? 25).map (·.size)=some CY.size by rw[hCY];exact szSl);have ho3:=Lib.hid (show CY.all (·.oneCell')=true by rw[hCY];exact slcl_one _ _ _);have hX5:=Lib.hid (show CY.size=5 by rw[hCY];rfl);have hCY':=Lib.hid hCY;have b3:=Lib.hid (below_step b2.out hb);have b13:=Lib.hid (below_step b12.out hb);have g3:=Lib.hid (heap_below hg'.out b13.out);have gz3:=Lib.hid (heap_below hgZ'.out b13.out);have ox3:=Lib.hid (own_less hox b12.out.size);have hth:=Lib.hid (show w3.there w.heap.size (5+k*5) CY.size by rw[hX5.out];exact there_of_block g3.out (5+k*5) 5 (by rw[rcl_length];have:=hk1.out;omega));clear hb hox hCY)
     |(with_reducible refine wpList_store_mid rfl 25 _ _ rfl w.heap.size (5+k*5) CY rfl rfl hth.out hs3.out ho3.out ?_))
    have hg4:=rc_set g3.out k hk1.out (r.s k) a n
    have hbt:=but_setCells (g:=w.heap.size) (w:=w3) (5+k*5) (slcl (r.s k) a n)
    have ej:∀ j,rlist { r with s:=upd r.s k (r.s k) } j=rlist r j:=fun j=>by rw[rlist_upd];by_cases e:j=k+2 <;> simp[e,rlist]
    have er:rcl { r with s:=upd r.s k (r.s k) } (upd As (k+2) a) (upd cs (k+2) n)=rcl r (upd As (k+2) a) (upd cs (k+2) n):=by
     have:upd r.s k (r.s k)=r.s:=by funext j;by_cases e:j=k <;> simp[upd,e]
     rw[this]
    rw[er] at hg4
    have hown:∀ j,j<k+1+2→(w3.setCells w.heap.size (5+k*5) (slcl (r.s k) a n)).ownsRow w.heap.size 5 1 (.slice (upd As (k+2) a j) (rlist r j).length (upd cs (k+2) n j)) (rlist r j).length (nums .u8 (rlist r j)):=fun j hj=>by
     by_cases e:j=k+2
     ·subst e
      rw[upd_same,upd_same]
      have:=own_less ox3.out hbw'.out.size
      exact own_move this (fun i hi=>hbt.2 i (this.lt i hi).2 (fun e=>own_ne this g3.out (by decide) i hi e))
     rw[upd_other _ _ _ _ e,upd_other _ _ _ _ e]
     have h0:=hO'.out j (by omega)
     have h1:=own_move h0 (fun i hi=>b13.out.block i (h0.lt i hi).2)
     exact own_move h1 (fun i hi=>hbt.2 i (h1.lt i hi).2 (fun e=>own_ne h1 g3.out (by decide) i hi e))
    have hdis:∀ i,(Value.slice (upd As (k+2) a 2) (rlist r 2).length (upd cs (k+2) n 2)).ownBlock=some i→(Value.slice (upd As (k+2) a 0) r.salt.length (upd cs (k+2) n 0)).ownBlock≠some i:=by
     rw[upd_other As _ 0 _ (by omega),upd_other cs _ 0 _ (by omega)]
     rcases Nat.eq_zero_or_pos k with h0 | h0
     ·subst h0
      rw[upd_same,upd_same]
      intro i hi hj
      have h1:=(hO'.out 0 (by omega)).lt i hj
      have h2:=ox3.out.lt i hi
      omega
     rw[upd_other As _ 2 _ (by omega),upd_other cs _ 2 _ (by omega)]
     exact hne'.out h0
    have hZ4:=(hbt.2 _ (lt_of_heap gz3.out) (Nat.succ_ne_self _)).trans gz3.out
    have hb4:=below_setCells (Nat.le_refl _) (slcl (r.s k) a n) (5+k*5) w3 b3.out
    rw[show CY.toList=slcl (r.s k) a n from by rw[hCY'.out]]
    exact ⟨⟨k+1,hk1.out,by push_cast;rfl,_,_,hg4,hown,fun _=>hdis,hZ4,hb4⟩,by have:=hk1.out;simp only[intOf];omega⟩
   obtain rfl:k=4:=by omega
   obtain ⟨CR,hCR⟩:∃ CR,CR=(rcl r As cs).toArray:=⟨_,rfl⟩
   have g1:=Lib.hid hg'.out
   rw[← hCR] at g1
   have gz:=Lib.hid (show wr.heap[w.heap.size+1]?=some (.cells Z 28 (0,0)) by rw[hZ'.out];exact hgZ'.out)
   have hCRs:=Lib.hid (show (Try.prog.info? 28).map (·.size)=some CR.size by rw[hCR];exact szRc)
   have hCRo:=Lib.hid (show CR.all (·.oneCell')=true by rw[hCR];exact rcl_one _ _ _)
   have hCRz:=Lib.hid (show Z.size=CR.size by rw[hCR,hZ'.out];rfl)
   have hCR':=Lib.hid hCR
   clear hCR hlt hk
   go_wp2_with (first
    |(with_reducible refine wpList_load_row rfl 28 _ rfl w.heap.size rfl 28 CR (0,0) _ g1.out Try.underlying28 rfl hCRs.out ?_)
    |(with_reducible refine wpList_store_row rfl 28 _ _ rfl (w.heap.size+1) CR rfl rfl 28 Z gz.out hCRs.out hCRz.out hCRo.out ?_))
   have hq:=setRow_heap wr (w.heap.size+1) Z CR 28 (0,0) gz.out
   refine bodyPost_ret (v:=.agg CR) (results_cell_row (p:=2) (ty:=28) rfl _ _ (w.heap.size+1) 28 _ (0,0) _ (by rfl) hq Try.underlying28 rfl hCRs.out) rfl ?_
   have hbt:But (w.heap.size+1) wr (wr.setRow (w.heap.size+1) CR):=⟨by simp[World.setRow],fun k _ hk=>setRow_other wr (w.heap.size+1) k CR hk⟩
   exact ⟨As,cs,by rw[hCR'.out],fun j hj=>by
    have h0:=hO'.out j (by omega)
    exact own_move h0 (fun i hi=>hbt.2 i (h0.lt i hi).2 (fun e=>own_ne h0 gz.out (by decide) i hi e)),hne'.out (by omega),below_setRow hbw'.out (Nat.le_succ _) _⟩
end Go.Proofs.Ytbajioiiaamokaa.Own
