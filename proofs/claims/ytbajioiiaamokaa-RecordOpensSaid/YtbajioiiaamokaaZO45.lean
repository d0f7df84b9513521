/- RrB, pruned (slim.py). -/
import Derived.Test.YtbajioiiaamokaaZO38
namespace Go.Proofs.Ytbajioiiaamokaa.Own
open Go.RowKit Go.Proofs.Ytbajioiiaamokaa.Arr Go.Proofs.Ytbajioiiaamokaa.QB Go.Proofs.YtbajioiiaamokaaW.PrintWords Go.Proofs.YtbajioiiaamokaaW.PrintLast Go.Proofs.YtbajioiiaamokaaW.PrintMore
set_option linter.unusedVariables false
set_option linter.unusedSimpArgs false
attribute [-go_sem] Instr.build
def RrRes (w0 w:World) (o:Option RcT) (e:Ending) (w':World):Prop:=
 ∃ A c,e=.returned (.tuple #[.agg (rcl (o.getD rcZero) A c).toArray,.bool o.isSome])∧RcV w0 (o.getD rcZero) A c∧Below w.heap.size w w'
def RrMidR (w0 w:World) (r:RcT) (v:Value) (w':World):Prop:=
 ∃ g A c,v=.pointer (some ⟨g,0,none⟩)∧w'.heap[g]?=some (.cells (rcl r A c).toArray 39 (0,0))∧RcV w0 r A c∧w.heap.size<g∧w'.heap[w.heap.size]?=some (.cells zRc 39 (0,0))∧Below w.heap.size w w'
def RrLoop (w0 w:World) (l:List Int) (a b d:Int) (LS LC:List Int) (g k:Nat) (w':World):Prop:=
 ∃ s A c,w'.heap[g]?=some (.cells (rcl ⟨a,b,LS,d,LC,s⟩ A c).toArray 39 (0,0))∧(∀ j,j<k→s j=(slRead (partR l j)).getD slZero)∧RcV w0 ⟨a,b,LS,d,LC,s⟩ A c∧w'.heap[w.heap.size]?=some (.cells zRc 39 (0,0))∧Below w.heap.size w w'
theorem refNumTo (A:Option Addr) (c:Nat) (l:List Int) (hb:∀ x ∈ l,byt x) (hi:Nat) (h2:hi≤l.length) (h3:l.length≤c) (h8:hi≤8) (W:World) (hC:Kd.C (Kd.int .u8) W A l.length l) :
  Calls Try.prog 65 #[.slice A hi c] W fun e w'=>e=.returned (.int .u64 (valL (l.take hi)))∧Below W.heap.size W w':=by
 have hl:(l.take hi).length=hi:=by rw[List.length_take];omega
 have:=nepentheref01_Num.calls 10 A c (l.take hi) (valL (l.take hi)) W (by rw[hl];exact C_take hC hi h2) (by rw[hl];omega) (refNum_eq _ (by rw[hl];exact h8) (fun x hx=>hb x (List.mem_of_mem_take hx)) 0)
 rw[hl] at this
 exact this
theorem val_zero (l:List Int) (hl:l.length=8) (hb:∀ x ∈ l,byt x):valL l=0↔l=zL 8:=by
 constructor
 ·intro h
  have:=bigL_val 8 l hl hb
  rw[h] at this
  rw[← this];rfl
 intro h;rw[h];rfl
theorem builtRr5 (a b c:Int) (A B:Option Addr) (n k m j:Nat):Try.prog.built 39 (#[(0,.int .u64 a),(1,.int .u64 b),(2,.slice A n k),(3,.int .u64 c),(4,.slice B m j)]:Array (Nat × Value)).toList=some (([.int .u64 a,.int .u64 b,.slice A n k,.int .u64 c,.slice B m j]:List Value)++rcs (fun _=>slZero) (fun _=>none) (fun _=>0)).toArray:=by kernel_rfl
set_option maxHeartbeats 8000000 in
set_option maxRecDepth 100000 in
theorem ref18Read_any (w0:World) (A:Option Addr) (c:Nat) (l:List Int) (hl:l.length=624) (hc:624≤c) (hb:∀ x ∈ l,byt x) (w:World) (hC0:Kd.C (Kd.int .u8) w0 A l.length l) (hw0:Below w0.heap.size w0 w) :
  Calls Try.prog 35 #[.slice A 624 c] w (RrRes w0 w (rcRead l)):=by
 have hC:Kd.C (Kd.int .u8) w A l.length l:=Kd.C_below hC0 hw0
 obtain ⟨hz,-⟩:=zero_of_info (P:=Try.prog) infoRr
 obtain ⟨hzS,-⟩:=zero_of_info (P:=Try.prog) infoSr
 have hb0:∀ W:World,(Instr.build 39 #[]).run Try.prog W=.ok (.agg zRc) W:=fun W=>run_build W _ _ _ builtRr0
 obtain ⟨Z,hZ⟩:∃ Z:Array Value,Z=zRc:=⟨_,rfl⟩
 have hszZ:=Lib.hid (show (Try.prog.info? 39).map (·.size)=some Z.size by rw[hZ];exact szRr)
 have honeZ:=Lib.hid (show Z.all (·.oneCell')=true by rw[hZ];exact rcl_one _ _ _)
 rw[← hZ] at hz hb0
 have hZ':=Lib.hid hZ
 have hg0:=Lib.hid (heap_alloc_last w (.cells Z 39 (0,0)))
 have hbw0:=Lib.hid (show Below w.heap.size w (w.alloc (.cells Z 39 (0,0))) from (Below.refl _ _).alloc (Nat.le_refl _) _)
 have hn0:=refNumTo A c l hb 8 (by omega) (by omega) (by decide)
 obtain ⟨A8,hs8,hn8⟩:=refNumCut A c l hb 8 16 (by omega) (by omega) (by omega) (by omega)
 obtain ⟨A32,hs32,hn32⟩:=refNumCut A c l hb 32 40 (by omega) (by omega) (by omega) (by omega)
 obtain ⟨A40,hs40,hn40⟩:=refNumCut A c l hb 40 48 (by omega) (by omega) (by omega) (by omega)
 obtain ⟨A16,hs16,hc16⟩:=cutB A l.length c 16 32 l (by omega) (by omega) (by omega)
 obtain ⟨A48,hs48,hc48⟩:=cutB A l.length c 48 80 l (by omega) (by omega) (by omega)
 have hz40:=val_zero ((l.take 48).drop 40) (part_len l 40 48 (by omega)) (part_mem hb)
 obtain ⟨V0,hV0⟩:∃ V,V=valL (l.take 8):=⟨_,rfl⟩
 obtain ⟨V8,hV8⟩:∃ V,V=valL ((l.take 16).drop 8):=⟨_,rfl⟩
 obtain ⟨V32,hV32⟩:∃ V,V=valL ((l.take 40).drop 32):=⟨_,rfl⟩
 obtain ⟨V40,hV40⟩:∃ V,V=valL ((l.take 48).drop 40):=⟨_,rfl⟩
 obtain ⟨LS,hLS⟩:∃ V,V=(l.take 32).drop 16:=⟨_,rfl⟩
 obtain ⟨LC,hLC⟩:∃ V,V=(l.take 80).drop 48:=⟨_,rfl⟩
 have hLSl:LS.length=16:=by rw[hLS,part_len l 16 32 (by omega)]
 have hLCl:LC.length=32:=by rw[hLC,part_len l 48 80 (by omega)]
 have hhead:rcHead l=⟨V0,V8,LS,V32,LC,fun k=>(slRead (partR l k)).getD slZero⟩:=by rw[hV0,hV8,hV32,hLS,hLC];rfl
 have hCS:=hc16 w0 hC0
 have hCC:=hc48 w0 hC0
 rw[← hLS] at hCS
 rw[← hLC] at hCC
 rw[← hV0] at hn0
 rw[← hV8] at hn8
 rw[← hV32] at hn32
 rw[← hV40] at hn40 hz40
 rw[hl] at hs8 hs32 hs16 hs48 hs40
 have s8:=Lib.hid (show ∀ W:World,(Instr.slice 23 (.slice A 624 c) (some (.int .i64 8)) (some (.int .i64 16)) none).run Try.prog W=.ok (.slice A8 8 (c - 8)) W from hs8)
 have s32:=Lib.hid (show ∀ W:World,(Instr.slice 23 (.slice A 624 c) (some (.int .i64 32)) (some (.int .i64 40)) none).run Try.prog W=.ok (.slice A32 8 (c - 32)) W from hs32)
 have s40:∀ W:World,(Instr.slice 23 (.slice A 624 c) (some (.int .i64 40)) (some (.int .i64 48)) none).run Try.prog W=.ok (.slice A40 8 (c - 40)) W:=hs40
 have s16:=Lib.hid (show ∀ W:World,(Instr.slice 23 (.slice A 624 c) (some (.int .i64 16)) (some (.int .i64 32)) none).run Try.prog W=.ok (.slice A16 16 (c - 16)) W from hs16)
 have s48:=Lib.hid (show ∀ W:World,(Instr.slice 23 (.slice A 624 c) (some (.int .i64 48)) (some (.int .i64 80)) none).run Try.prog W=.ok (.slice A48 32 (c - 48)) W from hs48)
 have s0:=Lib.hid (fun W:World=>show (Instr.slice 23 (.slice A 624 c) none (some (.int .i64 8)) none).run Try.prog W=.ok (.slice A 8 c) W from cut_to A 624 c 8 (by omega) W)
 have n0:=Lib.hid (fun (W:World) (h:Below w.heap.size w W)=>hn0 W (Kd.C_below hC h))
 have n8:=Lib.hid (fun (W:World) (h:Below w.heap.size w W)=>show Calls Try.prog 65 #[.slice A8 8 (c - 8)] W _ from hn8 W (Kd.C_below hC h))
 have n32:=Lib.hid (fun (W:World) (h:Below w.heap.size w W)=>show Calls Try.prog 65 #[.slice A32 8 (c - 32)] W _ from hn32 W (Kd.C_below hC h))
 have n40:=Lib.hid (fun (W:World) (h:Below w.heap.size w W)=>show Calls Try.prog 65 #[.slice A40 8 (c - 40)] W _ from hn40 W (Kd.C_below hC h))
 obtain ⟨AA,hAA⟩:∃ AA:Nat→Option Addr,AA=upd (upd (fun _=>none) 0 A16) 1 A48:=⟨_,rfl⟩
 obtain ⟨cc,hcc⟩:∃ cc:Nat→Nat,cc=upd (upd (fun _=>0) 0 (c - 16)) 1 (c - 48):=⟨_,rfl⟩
 obtain ⟨G,hG⟩:∃ G:Array Value,G=(rcl ⟨V0,V8,LS,V32,LC,fun _=>slZero⟩ AA cc).toArray:=⟨_,rfl⟩
 have hGb:=Lib.hid (show ∀ (W:World),(Instr.build 39 #[(0,.int .u64 V0),(1,.int .u64 V8),(2,.slice A16 16 (c - 16)),(3,.int .u64 V32),(4,.slice A48 32 (c - 48))]).run Try.prog W=.ok (.agg G) W from fun W=>by
  rw[hG,hAA,hcc]
  have:=run_build W _ _ _ (builtRr5 V0 V8 V32 A16 A48 16 (c - 16) 32 (c - 48))
  rw[← hLSl,← hLCl] at this ⊢
  exact this)
 have hGs:=Lib.hid (show (Try.prog.info? 39).map (·.size)=some G.size by rw[hG];exact szRr)
 have hGo:=Lib.hid (show G.all (·.oneCell')=true by rw[hG];exact rcl_one _ _ _)
 have hGZ:=Lib.hid (show Z.size=G.size by rw[hG,hZ'.out];rfl)
 have hGV:=Lib.hid (show RcV w0 ⟨V0,V8,LS,V32,LC,fun _=>slZero⟩ AA cc from fun j hj=>by
  rw[hAA,hcc]
  match j with
  |0=>show Kd.C _ w0 A16 LS.length LS∧LS.length≤c - 16;rw[hLSl];exact ⟨hCS,by omega⟩
  |1=>show Kd.C _ w0 A48 LC.length LC∧LC.length≤c - 48;rw[hLCl];exact ⟨hCC,by omega⟩
  |k+2=>exact ⟨Kd.C_nil _ _,Nat.zero_le _⟩)
 have hG':=Lib.hid hG
 have hhead':=Lib.hid hhead
 have hz40':=Lib.hid hz40
 have hl':=Lib.hid hl
 have hC':=Lib.hid hC
 have hb':=Lib.hid hb
 have hw0':=Lib.hid hw0
 have hC0':=Lib.hid hC0
 clear hs8 hs32 hs16 hs48 hs40 hn0 hn8 hn32 hn40 hc16 hc48 hV0 hV8 hV32 hV40 hLS hLC hLSl hLCl hhead hG hl hC hb hZ hz40 hCS hCC hw0 hC0 hAA hcc
 go_enter Try.func35,Try.ntmps35
 go_wp2_with fail
 go_cut [4] (fun v w'=>RrMidR w0 w ⟨V0,V8,LS,V32,LC,fun _=>slZero⟩ v w')
 case first=>
  refine start_ (n:=16) (S:=fun w'=>Below w.heap.size w w'∧w'.heap[w.heap.size]?=some (.cells Z 39 (0,0))) (ds:=[15]) #[false,false,false,false,false,false,false,false,false,false,false,false,false,false,false,false] (by kernel_rfl) rfl rfl (by exact ⟨below_drew hbw0.out,hg0.out⟩) (fun hHeld=>?_)
  refine pure_ (i:=0) (N:=some 9) (v:=?_) (a':=?_) #[true,false,false,false,false,false,false,false,false,false,false,false,false,false,false,false] rfl rfl (by kernel_rfl) (fun _ _ _ h=>h) (Or.inl ⟨by rfl,?_⟩) ?_ ?_
  rotate_left
  ·intro w';go_simp;with_reducible rfl
  rotate_left
  ·simp only[Act.put,sZ0,sZ1,sZ2,i64_w,i32_w];rfl
  refine pure_ (i:=1) (N:=some 10) (v:=?_) (a':=?_) #[true,true,false,false,false,false,false,false,false,false,false,false,false,false,false,false] rfl rfl (by kernel_rfl) (fun _ _ _ h=>h) (Or.inl ⟨by rfl,?_⟩) ?_ ?_
  rotate_left
  ·intro w'
   refine (exec_slice_h w' 23 _ Try.underlying23 _ _ (by rfl) (.slice A 624 c) (.int .i64 8) _ (by rfl) (by rfl) (s0.out w')).trans ?_;with_reducible rfl
  rotate_left
  ·simp only[Act.put,sZ0,sZ1,sZ2,i64_w,i32_w];rfl
  refine pure_ (i:=3) (N:=some 12) (v:=?_) (a':=?_) #[true,true,false,true,false,false,false,false,false,false,false,false,false,false,false,false] rfl rfl (by kernel_rfl) (fun _ _ _ h=>h) (Or.inl ⟨by rfl,?_⟩) ?_ ?_
  rotate_left
  ·intro w';go_simp;with_reducible rfl
  rotate_left
  ·simp only[Act.put,sZ0,sZ1,sZ2,i64_w,i32_w];rfl
  refine pure_ (i:=4) (N:=some 13) (v:=?_) (a':=?_) #[true,true,false,true,true,false,false,false,false,false,false,false,false,false,false,false] rfl rfl (by kernel_rfl) (fun _ _ _ h=>h) (Or.inl ⟨by rfl,?_⟩) ?_ ?_
  rotate_left
  ·intro w'
   refine (exec_slice_lh w' 23 _ Try.underlying23 _ _ _ (by rfl) (.slice A 624 c) (.int .i64 8) (.int .i64 16) _ (by rfl) (by rfl) (by rfl) (s8.out w')).trans ?_;with_reducible rfl
  rotate_left
  ·simp only[Act.put,sZ0,sZ1,sZ2,i64_w,i32_w];rfl
  refine pure_ (i:=6) (N:=some 15) (v:=?_) (a':=?_) #[true,true,false,true,true,false,true,false,false,false,false,false,false,false,false,false] rfl rfl (by kernel_rfl) (fun _ _ _ h=>h) (Or.inl ⟨by rfl,?_⟩) ?_ ?_
  rotate_left
  ·intro w';go_simp;with_reducible rfl
  rotate_left
  ·simp only[Act.put,sZ0,sZ1,sZ2,i64_w,i32_w];rfl
  refine pure_ (i:=7) (N:=some 16) (v:=?_) (a':=?_) #[true,true,false,true,true,false,true,true,false,false,false,false,false,false,false,false] rfl rfl (by kernel_rfl) (fun _ _ _ h=>h) (Or.inl ⟨by rfl,?_⟩) ?_ ?_
  rotate_left
  ·intro w'
   refine (exec_slice_lh w' 23 _ Try.underlying23 _ _ _ (by rfl) (.slice A 624 c) (.int .i64 16) (.int .i64 32) _ (by rfl) (by rfl) (by rfl) (s16.out w')).trans ?_;with_reducible rfl
  rotate_left
  ·simp only[Act.put,sZ0,sZ1,sZ2,i64_w,i32_w];rfl
  refine pure_ (i:=8) (N:=some 17) (v:=?_) (a':=?_) #[true,true,false,true,true,false,true,true,true,false,false,false,false,false,false,false] rfl rfl (by kernel_rfl) (fun _ _ _ h=>h) (Or.inl ⟨by rfl,?_⟩) ?_ ?_
  rotate_left
  ·intro w';go_simp;with_reducible rfl
  rotate_left
  ·simp only[Act.put,sZ0,sZ1,sZ2,i64_w,i32_w];rfl
  refine pure_ (i:=9) (N:=some 18) (v:=?_) (a':=?_) #[true,true,false,true,true,false,true,true,true,true,false,false,false,false,false,false] rfl rfl (by kernel_rfl) (fun _ _ _ h=>h) (Or.inl ⟨by rfl,?_⟩) ?_ ?_
  rotate_left
  ·intro w'
   refine (exec_slice_lh w' 23 _ Try.underlying23 _ _ _ (by rfl) (.slice A 624 c) (.int .i64 32) (.int .i64 40) _ (by rfl) (by rfl) (by rfl) (s32.out w')).trans ?_;with_reducible rfl
  rotate_left
  ·simp only[Act.put,sZ0,sZ1,sZ2,i64_w,i32_w];rfl
  refine pure_ (i:=11) (N:=some 20) (v:=?_) (a':=?_) #[true,true,false,true,true,false,true,true,true,true,false,true,false,false,false,false] rfl rfl (by kernel_rfl) (fun _ _ _ h=>h) (Or.inl ⟨by rfl,?_⟩) ?_ ?_
  rotate_left
  ·intro w';go_simp;with_reducible rfl
  rotate_left
  ·simp only[Act.put,sZ0,sZ1,sZ2,i64_w,i32_w];rfl
  refine pure_ (i:=12) (N:=some 21) (v:=?_) (a':=?_) #[true,true,false,true,true,false,true,true,true,true,false,true,true,false,false,false] rfl rfl (by kernel_rfl) (fun _ _ _ h=>h) (Or.inl ⟨by rfl,?_⟩) ?_ ?_
  rotate_left
  ·intro w'
   refine (exec_slice_lh w' 23 _ Try.underlying23 _ _ _ (by rfl) (.slice A 624 c) (.int .i64 48) (.int .i64 80) _ (by rfl) (by rfl) (by rfl) (s48.out w')).trans ?_;with_reducible rfl
  rotate_left
  ·simp only[Act.put,sZ0,sZ1,sZ2,i64_w,i32_w];rfl
  refine two_ (i:=2) (Ni:=some 11) (j:=14) (Nj:=some 4) #[true,true,true,true,true,false,true,true,true,true,false,true,true,false,false,false] #[true,true,false,true,true,false,true,true,true,true,false,true,true,false,true,false] rfl rfl rfl rfl (by kernel_rfl) (by decide) (by decide) (fun K hK=>?_) (fun K hK=>?_)
  ·skip
   refine goes_ Try.func65 (by kernel_rfl) rfl #[.slice A 8 c] (by rfl) rfl rfl (by (try simp only[List.map_toArray,List.map_cons,List.map_nil]);first | done | rfl) ?_
   refine (n0.out _ hHeld.1).mono ?_
   rintro e wn ⟨rfl,hb⟩
   refine ⟨_,rfl,?_⟩
   refine hK.out _ _ ⟨below_step hHeld.1 hb,heap_below hHeld.2 hb⟩ (fun hHeld=>?_)
   (try have hA:=Lib.hid (heap_below hA.out hb))
   clear hb
   clear hK K;refine norm_ (a':=?_) ?_ ?_
   rotate_left
   ·show Act.put _ (some 11) _=_
    simp only[Act.put,sZ0,sZ1,sZ2,i64_w,i32_w];rfl
   refine two_ (i:=5) (Ni:=some 14) (j:=14) (Nj:=some 4) #[true,true,true,true,true,true,true,true,true,true,false,true,true,false,false,false] #[true,true,true,true,true,false,true,true,true,true,false,true,true,false,true,false] rfl rfl rfl rfl (by kernel_rfl) (by decide) (by decide) (fun K hK=>?_) (fun K hK=>?_)
   ·skip
    refine goes_ Try.func65 (by kernel_rfl) rfl #[.slice A8 8 (c - 8)] (by rfl) rfl rfl (by (try simp only[List.map_toArray,List.map_cons,List.map_nil]);first | done | rfl) ?_
    refine (n8.out _ hHeld.1).mono ?_
    rintro e wn ⟨rfl,hb⟩
    refine ⟨_,rfl,?_⟩
    refine hK.out _ _ ⟨below_step hHeld.1 hb,heap_below hHeld.2 hb⟩ (fun hHeld=>?_)
    (try have hA:=Lib.hid (heap_below hA.out hb))
    clear hb
    clear hK K;refine norm_ (a':=?_) ?_ ?_
    rotate_left
    ·show Act.put _ (some 14) _=_
     simp only[Act.put,sZ0,sZ1,sZ2,i64_w,i32_w];rfl
    refine two_ (i:=10) (Ni:=some 19) (j:=14) (Nj:=some 4) #[true,true,true,true,true,true,true,true,true,true,true,true,true,false,false,false] #[true,true,true,true,true,true,true,true,true,true,false,true,true,false,true,false] rfl rfl rfl rfl (by kernel_rfl) (by decide) (by decide) (fun K hK=>?_) (fun K hK=>?_)
    ·skip
     refine goes_ Try.func65 (by kernel_rfl) rfl #[.slice A32 8 (c - 32)] (by rfl) rfl rfl (by (try simp only[List.map_toArray,List.map_cons,List.map_nil]);first | done | rfl) ?_
     refine (n32.out _ hHeld.1).mono ?_
     rintro e wn ⟨rfl,hb⟩
     refine ⟨_,rfl,?_⟩
     refine hK.out _ _ ⟨below_step hHeld.1 hb,heap_below hHeld.2 hb⟩ (fun hHeld=>?_)
     (try have hA:=Lib.hid (heap_below hA.out hb))
     clear hb
     clear hK K;refine norm_ (a':=?_) ?_ ?_
     rotate_left
     ·show Act.put _ (some 19) _=_
      simp only[Act.put,sZ0,sZ1,sZ2,i64_w,i32_w];rfl
     refine pure_ (i:=13) (N:=some 22) (v:=?_) (a':=?_) #[true,true,true,true,true,true,true,true,true,true,true,true,true,true,false,false] rfl rfl (by kernel_rfl) (fun _ _ _ h=>h) (Or.inl ⟨by rfl,?_⟩) ?_ ?_
     rotate_left
     ·intro w'
      have hq:=hGb.out w';go_simp;with_reducible rfl
     rotate_left
     ·simp only[Act.put,sZ0,sZ1,sZ2,i64_w,i32_w];rfl
     refine one_ (i:=14) (N:=some 4) #[true,true,true,true,true,true,true,true,true,true,true,true,true,true,true,false] rfl rfl (by kernel_rfl) (by decide) (fun K hK=>?_)
     refine step_alloc 39 Z (by rfl) rfl (by rfl) hz ?_
     intro g4 wn hA0 hg4 hb
     have hg:=Lib.hid (Nat.lt_of_lt_of_le (lt_of_heap hHeld.2) hg4)
     have hA:=Lib.hid hA0
     refine hK.out _ _ ⟨below_step hHeld.1 hb,heap_below hHeld.2 hb⟩ (fun hHeld=>?_)
     clear hb hA0 hg4
     clear hK K;refine norm_ (a':=?_) ?_ ?_
     rotate_left
     ·show Act.put _ (some 4) _=_
      simp only[Act.put,sZ0,sZ1,sZ2,i64_w,i32_w];rfl
     refine last_ (i:=15) (N:=none) #[true,true,true,true,true,true,true,true,true,true,true,true,true,true,true,true] rfl rfl (by kernel_rfl) (by decide) (fun K hK=>?_)
     refine step_store 39 (.tmp 4) (.tmp 22) g4 G 39 Z (by rfl) rfl (by rfl) (by rfl) (by rfl) hA.out hGs.out hGZ.out hGo.out ?_
     intro wn hA1 hbut hbel
     refine hK.out _ _ ?_
     have hfin':=Lib.hid (show RrMidR w0 w ⟨V0,V8,LS,V32,LC,fun _=>slZero⟩ (.pointer (some ⟨g4,0,none⟩)) wn from ⟨g4,AA,cc,rfl,by rw[hA1,hG'.out],hGV.out,hg.out,by rw[← hZ'.out];exact (hbut.2 _ (lt_of_heap hHeld.2) (Nat.ne_of_lt hg.out)).trans hHeld.2,hHeld.1.trans (hbel _ (Nat.le_of_lt hg.out))⟩)
     clear hA1 hbut hbel
     clear hK K;refine done_ (by kernel_rfl) ?_
     go_step;go_step
     go_meet
     exact hfin'.out
    refine step_alloc 39 Z (by rfl) rfl (by rfl) hz ?_
    intro g4 wn hA0 hg4 hb
    have hg:=Lib.hid (Nat.lt_of_lt_of_le (lt_of_heap hHeld.2) hg4)
    have hA:=Lib.hid hA0
    refine hK.out _ _ ⟨below_step hHeld.1 hb,heap_below hHeld.2 hb⟩ (fun hHeld=>?_)
    clear hb hA0 hg4
    clear hK K;refine norm_ (a':=?_) ?_ ?_
    rotate_left
    ·show Act.put _ (some 4) _=_
     simp only[Act.put,sZ0,sZ1,sZ2,i64_w,i32_w];rfl
    refine one_ (i:=10) (N:=some 19) #[true,true,true,true,true,true,true,true,true,true,true,true,true,false,true,false] rfl rfl (by kernel_rfl) (by decide) (fun K hK=>?_)
    refine goes_ Try.func65 (by kernel_rfl) rfl #[.slice A32 8 (c - 32)] (by rfl) rfl rfl (by (try simp only[List.map_toArray,List.map_cons,List.map_nil]);first | done | rfl) ?_
    refine (n32.out _ hHeld.1).mono ?_
    rintro e wn ⟨rfl,hb⟩
    refine ⟨_,rfl,?_⟩
    refine hK.out _ _ ⟨below_step hHeld.1 hb,heap_below hHeld.2 hb⟩ (fun hHeld=>?_)
    (try have hA:=Lib.hid (heap_below hA.out hb))
    clear hb
    clear hK K;refine norm_ (a':=?_) ?_ ?_
    rotate_left
    ·show Act.put _ (some 19) _=_
     simp only[Act.put,sZ0,sZ1,sZ2,i64_w,i32_w];rfl
    refine pure_ (i:=13) (N:=some 22) (v:=?_) (a':=?_) #[true,true,true,true,true,true,true,true,true,true,true,true,true,true,true,false] rfl rfl (by kernel_rfl) (fun _ _ _ h=>h) (Or.inl ⟨by rfl,?_⟩) ?_ ?_
    rotate_left
    ·intro w'
     have hq:=hGb.out w';go_simp;with_reducible rfl
    rotate_left
    ·simp only[Act.put,sZ0,sZ1,sZ2,i64_w,i32_w];rfl
    refine last_ (i:=15) (N:=none) #[true,true,true,true,true,true,true,true,true,true,true,true,true,true,true,true] rfl rfl (by kernel_rfl) (by decide) (fun K hK=>?_)
    refine step_store 39 (.tmp 4) (.tmp 22) g4 G 39 Z (by rfl) rfl (by rfl) (by rfl) (by rfl) hA.out hGs.out hGZ.out hGo.out ?_
    intro wn hA1 hbut hbel
    refine hK.out _ _ ?_
    have hfin':=Lib.hid (show RrMidR w0 w ⟨V0,V8,LS,V32,LC,fun _=>slZero⟩ (.pointer (some ⟨g4,0,none⟩)) wn from ⟨g4,AA,cc,rfl,by rw[hA1,hG'.out],hGV.out,hg.out,by rw[← hZ'.out];exact (hbut.2 _ (lt_of_heap hHeld.2) (Nat.ne_of_lt hg.out)).trans hHeld.2,hHeld.1.trans (hbel _ (Nat.le_of_lt hg.out))⟩)
    clear hA1 hbut hbel
    clear hK K;refine done_ (by kernel_rfl) ?_
    go_step;go_step
    go_meet
    exact hfin'.out
   refine step_alloc 39 Z (by rfl) rfl (by rfl) hz ?_
   intro g4 wn hA0 hg4 hb
   have hg:=Lib.hid (Nat.lt_of_lt_of_le (lt_of_heap hHeld.2) hg4)
   have hA:=Lib.hid hA0
   refine hK.out _ _ ⟨below_step hHeld.1 hb,heap_below hHeld.2 hb⟩ (fun hHeld=>?_)
   clear hb hA0 hg4
   clear hK K;refine norm_ (a':=?_) ?_ ?_
   rotate_left
   ·show Act.put _ (some 4) _=_
    simp only[Act.put,sZ0,sZ1,sZ2,i64_w,i32_w];rfl
   refine one_ (i:=5) (N:=some 14) #[true,true,true,true,true,true,true,true,true,true,false,true,true,false,true,false] rfl rfl (by kernel_rfl) (by decide) (fun K hK=>?_)
   refine goes_ Try.func65 (by kernel_rfl) rfl #[.slice A8 8 (c - 8)] (by rfl) rfl rfl (by (try simp only[List.map_toArray,List.map_cons,List.map_nil]);first | done | rfl) ?_
   refine (n8.out _ hHeld.1).mono ?_
   rintro e wn ⟨rfl,hb⟩
   refine ⟨_,rfl,?_⟩
   refine hK.out _ _ ⟨below_step hHeld.1 hb,heap_below hHeld.2 hb⟩ (fun hHeld=>?_)
   (try have hA:=Lib.hid (heap_below hA.out hb))
   clear hb
   clear hK K;refine norm_ (a':=?_) ?_ ?_
   rotate_left
   ·show Act.put _ (some 14) _=_
    simp only[Act.put,sZ0,sZ1,sZ2,i64_w,i32_w];rfl
   refine one_ (i:=10) (N:=some 19) #[true,true,true,true,true,true,true,true,true,true,true,true,true,false,true,false] rfl rfl (by kernel_rfl) (by decide) (fun K hK=>?_)
   refine goes_ Try.func65 (by kernel_rfl) rfl #[.slice A32 8 (c - 32)] (by rfl) rfl rfl (by (try simp only[List.map_toArray,List.map_cons,List.map_nil]);first | done | rfl) ?_
   refine (n32.out _ hHeld.1).mono ?_
   rintro e wn ⟨rfl,hb⟩
   refine ⟨_,rfl,?_⟩
   refine hK.out _ _ ⟨below_step hHeld.1 hb,heap_below hHeld.2 hb⟩ (fun hHeld=>?_)
   (try have hA:=Lib.hid (heap_below hA.out hb))
   clear hb
   clear hK K;refine norm_ (a':=?_) ?_ ?_
   rotate_left
   ·show Act.put _ (some 19) _=_
    simp only[Act.put,sZ0,sZ1,sZ2,i64_w,i32_w];rfl
   refine pure_ (i:=13) (N:=some 22) (v:=?_) (a':=?_) #[true,true,true,true,true,true,true,true,true,true,true,true,true,true,true,false] rfl rfl (by kernel_rfl) (fun _ _ _ h=>h) (Or.inl ⟨by rfl,?_⟩) ?_ ?_
   rotate_left
   ·intro w'
    have hq:=hGb.out w';go_simp;with_reducible rfl
   rotate_left
   ·simp only[Act.put,sZ0,sZ1,sZ2,i64_w,i32_w];rfl
   refine last_ (i:=15) (N:=none) #[true,true,true,true,true,true,true,true,true,true,true,true,true,true,true,true] rfl rfl (by kernel_rfl) (by decide) (fun K hK=>?_)
   refine step_store 39 (.tmp 4) (.tmp 22) g4 G 39 Z (by rfl) rfl (by rfl) (by rfl) (by rfl) hA.out hGs.out hGZ.out hGo.out ?_
   intro wn hA1 hbut hbel
   refine hK.out _ _ ?_
   have hfin':=Lib.hid (show RrMidR w0 w ⟨V0,V8,LS,V32,LC,fun _=>slZero⟩ (.pointer (some ⟨g4,0,none⟩)) wn from ⟨g4,AA,cc,rfl,by rw[hA1,hG'.out],hGV.out,hg.out,by rw[← hZ'.out];exact (hbut.2 _ (lt_of_heap hHeld.2) (Nat.ne_of_lt hg.out)).trans hHeld.2,hHeld.1.trans (hbel _ (Nat.le_of_lt hg.out))⟩)
   clear hA1 hbut hbel
   clear hK K;refine done_ (by kernel_rfl) ?_
   go_step;go_step
   go_meet
   exact hfin'.out
  refine step_alloc 39 Z (by rfl) rfl (by rfl) hz ?_
  intro g4 wn hA0 hg4 hb
  have hg:=Lib.hid (Nat.lt_of_lt_of_le (lt_of_heap hHeld.2) hg4)
  have hA:=Lib.hid hA0
  refine hK.out _ _ ⟨below_step hHeld.1 hb,heap_below hHeld.2 hb⟩ (fun hHeld=>?_)
  clear hb hA0 hg4
  clear hK K;refine norm_ (a':=?_) ?_ ?_
  rotate_left
  ·show Act.put _ (some 4) _=_
   simp only[Act.put,sZ0,sZ1,sZ2,i64_w,i32_w];rfl
  refine one_ (i:=2) (N:=some 11) #[true,true,true,true,true,false,true,true,true,true,false,true,true,false,true,false] rfl rfl (by kernel_rfl) (by decide) (fun K hK=>?_)
  refine goes_ Try.func65 (by kernel_rfl) rfl #[.slice A 8 c] (by rfl) rfl rfl (by (try simp only[List.map_toArray,List.map_cons,List.map_nil]);first | done | rfl) ?_
  refine (n0.out _ hHeld.1).mono ?_
  rintro e wn ⟨rfl,hb⟩
  refine ⟨_,rfl,?_⟩
  refine hK.out _ _ ⟨below_step hHeld.1 hb,heap_below hHeld.2 hb⟩ (fun hHeld=>?_)
  (try have hA:=Lib.hid (heap_below hA.out hb))
  clear hb
  clear hK K;refine norm_ (a':=?_) ?_ ?_
  rotate_left
  ·show Act.put _ (some 11) _=_
   simp only[Act.put,sZ0,sZ1,sZ2,i64_w,i32_w];rfl
  refine one_ (i:=5) (N:=some 14) #[true,true,true,true,true,true,true,true,true,true,false,true,true,false,true,false] rfl rfl (by kernel_rfl) (by decide) (fun K hK=>?_)
  refine goes_ Try.func65 (by kernel_rfl) rfl #[.slice A8 8 (c - 8)] (by rfl) rfl rfl (by (try simp only[List.map_toArray,List.map_cons,List.map_nil]);first | done | rfl) ?_
  refine (n8.out _ hHeld.1).mono ?_
  rintro e wn ⟨rfl,hb⟩
  refine ⟨_,rfl,?_⟩
  refine hK.out _ _ ⟨below_step hHeld.1 hb,heap_below hHeld.2 hb⟩ (fun hHeld=>?_)
  (try have hA:=Lib.hid (heap_below hA.out hb))
  clear hb
  clear hK K;refine norm_ (a':=?_) ?_ ?_
  rotate_left
  ·show Act.put _ (some 14) _=_
   simp only[Act.put,sZ0,sZ1,sZ2,i64_w,i32_w];rfl
  refine one_ (i:=10) (N:=some 19) #[true,true,true,true,true,true,true,true,true,true,true,true,true,false,true,false] rfl rfl (by kernel_rfl) (by decide) (fun K hK=>?_)
  refine goes_ Try.func65 (by kernel_rfl) rfl #[.slice A32 8 (c - 32)] (by rfl) rfl rfl (by (try simp only[List.map_toArray,List.map_cons,List.map_nil]);first | done | rfl) ?_
  refine (n32.out _ hHeld.1).mono ?_
  rintro e wn ⟨rfl,hb⟩
  refine ⟨_,rfl,?_⟩
  refine hK.out _ _ ⟨below_step hHeld.1 hb,heap_below hHeld.2 hb⟩ (fun hHeld=>?_)
  (try have hA:=Lib.hid (heap_below hA.out hb))
  clear hb
  clear hK K;refine norm_ (a':=?_) ?_ ?_
  rotate_left
  ·show Act.put _ (some 19) _=_
   simp only[Act.put,sZ0,sZ1,sZ2,i64_w,i32_w];rfl
  refine pure_ (i:=13) (N:=some 22) (v:=?_) (a':=?_) #[true,true,true,true,true,true,true,true,true,true,true,true,true,true,true,false] rfl rfl (by kernel_rfl) (fun _ _ _ h=>h) (Or.inl ⟨by rfl,?_⟩) ?_ ?_
  rotate_left
  ·intro w'
   have hq:=hGb.out w';go_simp;with_reducible rfl
  rotate_left
  ·simp only[Act.put,sZ0,sZ1,sZ2,i64_w,i32_w];rfl
  refine last_ (i:=15) (N:=none) #[true,true,true,true,true,true,true,true,true,true,true,true,true,true,true,true] rfl rfl (by kernel_rfl) (by decide) (fun K hK=>?_)
  refine step_store 39 (.tmp 4) (.tmp 22) g4 G 39 Z (by rfl) rfl (by rfl) (by rfl) (by rfl) hA.out hGs.out hGZ.out hGo.out ?_
  intro wn hA1 hbut hbel
  refine hK.out _ _ ?_
  have hfin':=Lib.hid (show RrMidR w0 w ⟨V0,V8,LS,V32,LC,fun _=>slZero⟩ (.pointer (some ⟨g4,0,none⟩)) wn from ⟨g4,AA,cc,rfl,by rw[hA1,hG'.out],hGV.out,hg.out,by rw[← hZ'.out];exact (hbut.2 _ (lt_of_heap hHeld.2) (Nat.ne_of_lt hg.out)).trans hHeld.2,hHeld.1.trans (hbel _ (Nat.le_of_lt hg.out))⟩)
  clear hA1 hbut hbel
  clear hK K;refine done_ (by kernel_rfl) ?_
  go_step;go_step
  go_meet
  exact hfin'.out
 case rest=>
  obtain ⟨g5,A0,c0,rfl,hg5,hV5,hlt5,hgZ5,hbw5⟩:=hcut
  have hinit':=Lib.hid (show RrLoop w0 w l V0 V8 V32 LS LC g5 0 wc from ⟨fun _=>slZero,A0,c0,hg5,fun j hj=>absurd hj (by omega),hV5,hgZ5,hbw5⟩)
  have hlt5':=Lib.hid hlt5
  have hbw5':=Lib.hid hbw5
  clear hg5 hV5 hlt5 hgZ5 hbw5 hGV hG' hGZ hGo hGs hGb s0 s8 s16 s32 s48 n0 n8 n32 hg0 hbw0
  obtain ⟨ZS,hZS⟩:∃ ZS:Array Value,ZS=zSl:=⟨_,rfl⟩
  rw[← hZS] at hzS
  have hZS':=Lib.hid hZS
  clear hZS
  obtain ⟨ok0,hok0⟩:∃ b:Bool,b=(V40 == 0):=⟨_,rfl⟩
  have hok0':=Lib.hid hok0
  have hok1:(V40 == 0)=ok0:=hok0.symm
  clear hok0
  have hn40':=n40.out wc hbw5'.out
  go_wp2_with ((with_reducible go_at_call 65);refine (n40.out _ hbw5'.out).mono ?_;rintro e w2 ⟨rfl,hb⟩;have hb2:=Lib.hid hb;clear hb hn40')
  have hinit2:=Lib.hid (show RrLoop w0 w l V0 V8 V32 LS LC g5 0 w2 from by
   obtain ⟨s,A1,c1,h1,h2,h3,h4,h5⟩:=hinit'.out
   exact ⟨s,A1,c1,heap_below h1 hb2.out,h2,h3,heap_below h4 hb2.out,below_step h5 hb2.out⟩)
  clear hinit' s40 n40
  go_loopw [5,6] (fun v5 v6 wr=>∃ k:Nat,k≤4∧v6=.int .i64 k∧v5=.bool (ok0 && slotsOk l k)∧RrLoop w0 w l V0 V8 V32 LS LC g5 k wr) (fun _ v6 _=>4 - (intOf v6).toNat)
  case atStart=>exact ⟨0,by omega,rfl,by rw[show slotsOk l 0=true from rfl,Bool.and_true],hinit2.out⟩
  case round=>
   obtain ⟨k,hk,rfl,rfl,s,As,cs,hg,hsl,hV,hgZ,hbw⟩:=hrel
   have hg':=Lib.hid hg
   have hsl':=Lib.hid hsl
   have hV':=Lib.hid hV
   have hgZ':=Lib.hid (show wr.heap[w.heap.size]?=some (.cells Z 39 (0,0)) by rw[hZ'.out];exact hgZ)
   have hbw':=Lib.hid hbw
   clear hg hsl hV hgZ hbw hinit2 hb2
   by_cases hlt:k<4
   ·have hl:=hl'.out
    obtain ⟨Ak,hsk,hck⟩:=cutB A l.length c (80+k*128) (80+k*128+128) l (by omega) (by omega) (by omega)
    have hpl:(partR l k).length=128:=by unfold partR;rw[part_len l _ _ (by omega)];omega
    have ek:(80+k*128+128) - (80+k*128)=128:=by omega
    rw[ek,hl] at hsk
    rw[ek,hl] at hck
    have hsk':∀ W:World,(Instr.slice 23 (.slice A 624 c) (some (.int .i64 (80+128*(k:Int)))) (some (.int .i64 (208+128*(k:Int)))) none).run Try.prog W=.ok (.slice Ak 128 (c - (80+k*128))) W:=fun W=>by
     have:=hsk W
     rw[show ((80+k*128:Nat):Int)=80+128*(k:Int) by omega,show ((80+k*128+128:Nat):Int)=208+128*(k:Int) by omega] at this
     exact this
    have hck0:=Lib.hid (show Kd.C (Kd.int .u8) w0 Ak (partR l k).length (partR l k) from by rw[hpl];have:=hC0'.out;rw[hl] at this;exact hck w0 this)
    have hpb:=Lib.hid (show ∀ x ∈ partR l k,byt x from part_mem hb'.out)
    have hpl':=Lib.hid hpl
    have hcap:=Lib.hid (show 128≤c - (80+k*128) by omega)
    have q1:(k:Int)<4:=by omega
    have q2:(0:Int)≤(k:Int):=by omega
    have kw:IntKind.i64.wrap ((k:Int)+1)=(k:Int)+1:=by rw[IntKind.wrap_i64];omega
    have hk1:=Lib.hid hlt
    have hread0:=fun (W:World) (h:Below w.heap.size w W)=>ref17Read_any w0 Ak (c - (80+k*128)) (partR l k) hpl'.out hcap.out hpb.out W hck0.out (below_step hw0'.out h)
    obtain ⟨bx,hbx⟩:∃ bx,bx=(slRead (partR l k)).isSome:=⟨_,rfl⟩
    obtain ⟨X,hX⟩:∃ X,X=(slRead (partR l k)).getD slZero:=⟨_,rfl⟩
    have hread:=Lib.hid (show ∀ W:World,Below w.heap.size w W→Calls Try.prog 67 #[.slice Ak 128 (c - (80+k*128))] W (fun e w'=>∃ A c,e=.returned (.tuple #[.agg (slcl X A c).toArray,.bool bx])∧Kd.C (Kd.int .u8) w0 A X.wrap.length X.wrap∧X.wrap.length≤c∧Below W.heap.size W w') by rw[hbx,hX];exact hread0)
    have hX':=Lib.hid hX
    have hnext:=Lib.hid (show (ok0 && slotsOk l (k+1))=((ok0 && slotsOk l k) && bx) by rw[slotsOk_succ,hbx,Bool.and_assoc])
    obtain ⟨bk,hbk⟩:∃ bk,bk=(ok0 && slotsOk l k):=⟨_,rfl⟩
    rw[← hbk] at hnext ⊢
    clear hl hsk hck hpl ek hlt hk hread0 hbx hX hbk
    cases bk
    ·skip
     go_wp2_with (first
      |((with_reducible go_at_call 67);refine (hread.out _ hbw'.out).mono ?_;rintro e w3 ⟨AX,cX,rfl,hCX,hcX,hb⟩;obtain ⟨CX,hCXa⟩:∃ CX,CX=(slcl X AX cX).toArray:=⟨_,rfl⟩;rw[← hCXa];have hs1:=Lib.hid (show (Try.prog.info? 36).map (·.size)=some CX.size by rw[hCXa];exact szSr);have hX5:=Lib.hid (show CX.size=5 by rw[hCXa];rfl);have hCXa':=Lib.hid hCXa;have ho1:=Lib.hid (show CX.all (·.oneCell')=true by rw[hCXa];exact slcl_one _ _ _);have hz1:=Lib.hid (show ZS.size=CX.size by rw[hCXa,hZS'.out];rfl);have b1:=Lib.hid (below_step hbw'.out hb);have gz1:=Lib.hid (heap_below hgZ'.out hb);have g1:=Lib.hid (heap_below hg'.out hb);have hCX':=Lib.hid hCX;have hcX':=Lib.hid hcX;clear hb hCXa hCX hcX)
      |(with_reducible refine wpList_store_row rfl 36 _ _ rfl w3.heap.size CX rfl rfl 36 ZS (heap_alloc_last _ _) hs1.out hz1.out ho1.out ?_;have b12:=Lib.hid (below_setRow ((Below.refl w3.heap.size w3).alloc (Nat.le_refl _) (.cells ZS 36 (0,0))) (Nat.le_refl _) CX);have hk7:=Lib.hid (setRow_heap (w3.alloc (.cells ZS 36 (0,0))) w3.heap.size ZS CX 36 (0,0) (heap_alloc_last _ _));generalize (w3.alloc (.cells ZS 36 (0,0))).setRow w3.heap.size CX=w4 at *;have b2:=Lib.hid (below_step b1.out b12.out);have gz2:=Lib.hid (heap_below gz1.out b12.out);have g2:=Lib.hid (heap_below g1.out b12.out);have hth:=Lib.hid (show w4.there g5 (5+k*5) CX.size by rw[hX5.out];exact there_of_block g2.out (5+k*5) 5 (by rw[rcl_length];have:=hk1.out;omega)))
      |(with_reducible refine wpList_load_row rfl 36 _ rfl w3.heap.size rfl 36 CX (0,0) _ hk7.out Try.underlying36 rfl hs1.out ?_)
      |(with_reducible refine wpList_store_mid rfl 36 _ _ rfl g5 (5+k*5) CX rfl rfl hth.out hs1.out ho1.out ?_))
     have hg3:=rc_set g2.out k hk1.out X AX cX
     have hbt:=but_setCells (g:=g5) (w:=w4) (5+k*5) (slcl X AX cX)
     have hV3:=hV'.out.upd k X AX cX hCX'.out hcX'.out
     have hZ3:(w4.setCells g5 (5+k*5) (slcl X AX cX)).heap[w.heap.size]?=some (.cells zRc 39 (0,0)):=by rw[← hZ'.out];exact (hbt.2 _ (lt_of_heap gz2.out) (Nat.ne_of_lt hlt5'.out)).trans gz2.out
     have hb3:=below_setCells (Nat.le_of_lt hlt5'.out) (slcl X AX cX) (5+k*5) w4 b2.out
     rw[show CX.toList=slcl X AX cX from by rw[hCXa'.out]]
     exact ⟨⟨k+1,hk1.out,by push_cast;rfl,by rw[hnext.out];rfl,upd s k X,_,_,hg3,fun j hj=>by
      by_cases e:j=k
      ·subst e;rw[upd_same];exact hX'.out
      rw[upd_other _ _ _ _ e];exact hsl'.out j (by omega),hV3,hZ3,hb3⟩,by have:=hk1.out;simp only[intOf];omega⟩
    go_wp2_with (first
     |((with_reducible go_at_call 67);refine (hread.out _ hbw'.out).mono ?_;rintro e w3 ⟨AX,cX,rfl,hCX,hcX,hb⟩;obtain ⟨CX,hCXa⟩:∃ CX,CX=(slcl X AX cX).toArray:=⟨_,rfl⟩;rw[← hCXa];have hs1:=Lib.hid (show (Try.prog.info? 36).map (·.size)=some CX.size by rw[hCXa];exact szSr);have hX5:=Lib.hid (show CX.size=5 by rw[hCXa];rfl);have hCXa':=Lib.hid hCXa;have ho1:=Lib.hid (show CX.all (·.oneCell')=true by rw[hCXa];exact slcl_one _ _ _);have hz1:=Lib.hid (show ZS.size=CX.size by rw[hCXa,hZS'.out];rfl);have b1:=Lib.hid (below_step hbw'.out hb);have gz1:=Lib.hid (heap_below hgZ'.out hb);have g1:=Lib.hid (heap_below hg'.out hb);have hCX':=Lib.hid hCX;have hcX':=Lib.hid hcX;clear hb hCXa hCX hcX)
     |(with_reducible refine wpList_store_row rfl 36 _ _ rfl w3.heap.size CX rfl rfl 36 ZS (heap_alloc_last _ _) hs1.out hz1.out ho1.out ?_;have b12:=Lib.hid (below_setRow ((Below.refl w3.heap.size w3).alloc (Nat.le_refl _) (.cells ZS 36 (0,0))) (Nat.le_refl _) CX);have hk7:=Lib.hid (setRow_heap (w3.alloc (.cells ZS 36 (0,0))) w3.heap.size ZS CX 36 (0,0) (heap_alloc_last _ _));generalize (w3.alloc (.cells ZS 36 (0,0))).setRow w3.heap.size CX=w4 at *;have b2:=Lib.hid (below_step b1.out b12.out);have gz2:=Lib.hid (heap_below gz1.out b12.out);have g2:=Lib.hid (heap_below g1.out b12.out);have hth:=Lib.hid (show w4.there g5 (5+k*5) CX.size by rw[hX5.out];exact there_of_block g2.out (5+k*5) 5 (by rw[rcl_length];have:=hk1.out;omega)))
     |(with_reducible refine wpList_load_row rfl 36 _ rfl w3.heap.size rfl 36 CX (0,0) _ hk7.out Try.underlying36 rfl hs1.out ?_)
     |(with_reducible refine wpList_store_mid rfl 36 _ _ rfl g5 (5+k*5) CX rfl rfl hth.out hs1.out ho1.out ?_))
    have hg3:=rc_set g2.out k hk1.out X AX cX
    have hbt:=but_setCells (g:=g5) (w:=w4) (5+k*5) (slcl X AX cX)
    have hV3:=hV'.out.upd k X AX cX hCX'.out hcX'.out
    have hZ3:(w4.setCells g5 (5+k*5) (slcl X AX cX)).heap[w.heap.size]?=some (.cells zRc 39 (0,0)):=by rw[← hZ'.out];exact (hbt.2 _ (lt_of_heap gz2.out) (Nat.ne_of_lt hlt5'.out)).trans gz2.out
    have hb3:=below_setCells (Nat.le_of_lt hlt5'.out) (slcl X AX cX) (5+k*5) w4 b2.out
    rw[show CX.toList=slcl X AX cX from by rw[hCXa'.out]]
    exact ⟨⟨k+1,hk1.out,by push_cast;rfl,by rw[hnext.out];rfl,upd s k X,_,_,hg3,fun j hj=>by
     by_cases e:j=k
     ·subst e;rw[upd_same];exact hX'.out
     rw[upd_other _ _ _ _ e];exact hsl'.out j (by omega),hV3,hZ3,hb3⟩,by have:=hk1.out;simp only[intOf];omega⟩
   obtain rfl:k=4:=by omega
   have hok:(ok0 && slotsOk l 4)=true↔((l.take 48).drop 40=zL 8∧slotsOk l 4=true):=by
    rw[Bool.and_eq_true,hok0'.out,beq_iff_eq,hz40'.out]
   obtain ⟨bk,hbk⟩:∃ bk,bk=(ok0 && slotsOk l 4):=⟨_,rfl⟩
   rw[← hbk] at hok ⊢
   clear hbk hk hlt
   cases bk
   ·have hfin:=Lib.hid (show rcRead l=none by unfold rcRead;rw[if_neg (fun h=>by have:=hok.2 h;simp at this)])
    clear hok
    go_wp2_with (with_reducible refine wpList_store_row rfl 39 _ _ rfl w.heap.size Z rfl rfl 39 Z hgZ'.out hszZ.out rfl honeZ.out ?_)
    have hq:=setRow_heap wr w.heap.size Z Z 39 (0,0) hgZ'.out
    refine bodyPost_ret (v:=.tuple #[.agg Z,.bool false]) (results_ct rfl _ _ w.heap.size 39 _ (0,0) _ (by rfl) hq Try.underlying39 rfl hszZ.out (by rfl)) rfl ?_
    rw[hfin.out]
    exact ⟨fun _=>none,fun _=>0,by rw[hZ'.out];rfl,RcV.zero _,below_setRow hbw'.out (Nat.le_refl _) _⟩
   have hfin:=Lib.hid (show rcRead l=some (rcHead l) by unfold rcRead;rw[if_pos (hok.1 rfl)])
   clear hok
   have hLl:=Lib.hid (show rcl ⟨V0,V8,LS,V32,LC,s⟩ As cs=rcl (rcHead l) As cs by
    rw[hhead'.out]
    show rch _ As cs++rcs s As cs=rch _ As cs++rcs _ As cs
    rw[rcs_congr (s:=s) (s':=fun k=>(slRead (partR l k)).getD slZero) (fun j hj=>hsl'.out j hj) As cs])
   have hVl:=Lib.hid (show RcV w0 (rcHead l) As cs from fun j hj=>by
    have e:rlist (rcHead l) j=rlist ⟨V0,V8,LS,V32,LC,s⟩ j:=by
     rw[hhead'.out]
     match j,hj with
     |0,_=>rfl
     |1,_=>rfl
     |i+2,hj=>show ((slRead (partR l i)).getD slZero).wrap=(s i).wrap;rw[hsl'.out i (by omega)]
    rw[e];exact hV'.out j hj)
   obtain ⟨CR,hCR⟩:∃ CR,CR=(rcl ⟨V0,V8,LS,V32,LC,s⟩ As cs).toArray:=⟨_,rfl⟩
   have g1:=Lib.hid hg'.out
   rw[← hCR] at g1
   have hCRs:=Lib.hid (show (Try.prog.info? 39).map (·.size)=some CR.size by rw[hCR];exact szRr)
   have hCRo:=Lib.hid (show CR.all (·.oneCell')=true by rw[hCR];exact rcl_one _ _ _)
   have hCRz:=Lib.hid (show Z.size=CR.size by rw[hCR,hZ'.out];rfl)
   have hCR':=Lib.hid hCR
   clear hCR
   go_wp2_with (first
    |(with_reducible refine wpList_load_row rfl 39 _ rfl g5 rfl 39 CR (0,0) _ g1.out Try.underlying39 rfl hCRs.out ?_)
    |(with_reducible refine wpList_store_row rfl 39 _ _ rfl w.heap.size CR rfl rfl 39 Z hgZ'.out hCRs.out hCRz.out hCRo.out ?_))
   have hq:=setRow_heap wr w.heap.size Z CR 39 (0,0) hgZ'.out
   refine bodyPost_ret (v:=.tuple #[.agg CR,.bool true]) (results_ct rfl _ _ w.heap.size 39 _ (0,0) _ (by rfl) hq Try.underlying39 rfl hCRs.out (by rfl)) rfl ?_
   rw[hfin.out]
   exact ⟨As,cs,by rw[hCR'.out,hLl.out];rfl,hVl.out,below_setRow hbw'.out (Nat.le_refl _) _⟩
end Go.Proofs.Ytbajioiiaamokaa.Own
