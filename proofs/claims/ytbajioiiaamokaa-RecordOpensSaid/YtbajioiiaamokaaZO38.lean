/- RrA, pruned (slim.py). -/
import Derived.Test.YtbajioiiaamokaaZO36
import Derived.Test.YtbajioiiaamokaaZO37
namespace Go.Proofs.Ytbajioiiaamokaa.Own
open Go.RowKit Go.Proofs.Ytbajioiiaamokaa.Arr Go.Proofs.Ytbajioiiaamokaa.QB Go.Proofs.YtbajioiiaamokaaW.PrintWords Go.Proofs.YtbajioiiaamokaaW.PrintLast Go.Proofs.YtbajioiiaamokaaW.PrintMore
set_option linter.unusedVariables false
set_option linter.unusedSimpArgs false
attribute [-go_sem] Instr.build
def SrRes (w0 w:World) (o:Option SlT) (e:Ending) (w':World):Prop:=
 ∃ A c,e=.returned (.tuple #[.agg (slcl (o.getD slZero) A c).toArray,.bool o.isSome])∧Kd.C (Kd.int .u8) w0 A (o.getD slZero).wrap.length (o.getD slZero).wrap∧(o.getD slZero).wrap.length≤c∧Below w.heap.size w w'
def RrMid (w:World) (x:SlT) (w0:World) (v:Value) (w':World):Prop:=
 ∃ g A c,v=.pointer (some ⟨g,0,none⟩)∧w'.heap[g]?=some (.cells (slcl x A c).toArray 36 (0,0))∧Kd.C (Kd.int .u8) w0 A x.wrap.length x.wrap∧x.wrap.length≤c∧w.heap.size<g∧w'.heap[w.heap.size]?=some (.cells zSl 36 (0,0))∧Below w.heap.size w w'
theorem refNumCut (A:Option Addr) (c:Nat) (l:List Int) (hb:∀ x ∈ l,byt x) (lo hi:Nat) (h1:lo≤hi) (h2:hi≤l.length) (h3:l.length≤c) (h8:hi - lo≤8) :
  ∃ A':Option Addr,(∀ W:World,(Instr.slice 23 (.slice A l.length c) (some (.int .i64 (lo:Int))) (some (.int .i64 (hi:Int))) none).run Try.prog W=.ok (.slice A' (hi - lo) (c - lo)) W)∧∀ W:World,Kd.C (Kd.int .u8) W A l.length l→Calls Try.prog 65 #[.slice A' (hi - lo) (c - lo)] W fun e w'=>e=.returned (.int .u64 (valL ((l.take hi).drop lo)))∧Below W.heap.size W w':=by
 obtain ⟨A',h4,h5⟩:=cutB A l.length c lo hi l h1 h2 h3
 refine ⟨A',h4,fun W hC=>?_⟩
 have hl:=part_len l lo hi h2
 have:=nepentheref01_Num.calls 10 A' (c - lo) ((l.take hi).drop lo) (valL ((l.take hi).drop lo)) W (by rw[hl];exact h5 W hC) (by rw[hl];omega) (refNum_eq _ (by rw[hl];exact h8) (part_mem hb) 0)
 rw[hl] at this
 exact this
set_option maxHeartbeats 8000000 in
set_option maxRecDepth 100000 in
theorem ref17Read_any (w0:World) (A:Option Addr) (c:Nat) (l:List Int) (hl:l.length=128) (hc:128≤c) (hb:∀ x ∈ l,byt x) (w:World) (hC0:Kd.C (Kd.int .u8) w0 A l.length l) (hw0:Below w0.heap.size w0 w) :
  Calls Try.prog 67 #[.slice A 128 c] w (SrRes w0 w (slRead l)):=by
 have hC:Kd.C (Kd.int .u8) w A l.length l:=Kd.C_below hC0 hw0
 have hR:=refSl_eq l hl hb
 obtain ⟨R,hRe⟩:∃ R,R=slRead l:=⟨_,rfl⟩
 rw[← hRe] at hR ⊢
 have hR':=Lib.hid hR
 clear hR hRe
 obtain ⟨hz,-⟩:=zero_of_info (P:=Try.prog) infoSr
 have hb0:∀ W:World,(Instr.build 36 #[]).run Try.prog W=.ok (.agg zSl) W:=fun W=>run_build W _ _ _ builtSr0
 obtain ⟨Z,hZ⟩:∃ Z:Array Value,Z=zSl:=⟨_,rfl⟩
 have hszZ:=Lib.hid (show (Try.prog.info? 36).map (·.size)=some Z.size by rw[hZ];exact szSr)
 have honeZ:=Lib.hid (show Z.all (·.oneCell')=true by rw[hZ];exact slcl_one _ _ _)
 rw[← hZ] at hz hb0
 have hZ':=Lib.hid hZ
 have hg0:=Lib.hid (heap_alloc_last w (.cells Z 36 (0,0)))
 have hbw0:=Lib.hid (show Below w.heap.size w (w.alloc (.cells Z 36 (0,0))) from (Below.refl _ _).alloc (Nat.le_refl _) _)
 obtain ⟨b,o,rfl,hr⟩:=C_range hC (by omega)
 have hcb0:=Lib.hid (fun (W:World) (h:Below w.heap.size w W)=>pw_cell_below h (C_cell hr 0 (by omega)))
 rw[Nat.add_zero] at hcb0
 have hl':=Lib.hid hl
 have hC':=Lib.hid hC
 have hb':=Lib.hid hb
 have hw0':=Lib.hid hw0
 have hC0':=Lib.hid hC0
 obtain ⟨x0,hx0⟩:∃ x0,x0=l.getD 0 0:=⟨_,rfl⟩
 rw[← hx0] at hcb0
 have hx0':=Lib.hid hx0
 clear hl hC hb hr hZ hx0 hw0 hC0
 have hk1:=Lib.hid (show ((w.alloc (.cells Z 36 (0,0))).alloc (.cells Z 36 (0,0))).heap[w.heap.size+1]?=some (.cells Z 36 (0,0)) by have:=heap_alloc_last (w.alloc (.cells Z 36 (0,0))) (.cells Z 36 (0,0));simpa using this)
 have hlen:=Lib.hid (Nat.lt_succ_self w.heap.size)
 go_enter Try.func67,Try.ntmps67
 go_upto_region 2 with (with_reducible refine wpList_store_row rfl 36 _ _ rfl (w.heap.size+1) Z rfl rfl 36 Z hk1.out hszZ.out rfl honeZ.out ?_)
 obtain ⟨W2,hW2⟩:∃ W2,W2=((w.alloc (.cells Z 36 (0,0))).alloc (.cells Z 36 (0,0))).setRow (w.heap.size+1) Z:=⟨_,rfl⟩
 have g2:=Lib.hid (show W2.heap[w.heap.size]?=some (.cells Z 36 (0,0)) by rw[hW2,setRow_other _ _ _ _ (Nat.ne_of_lt hlen.out),heap_skip _ _ _ (by simp)];exact hg0.out)
 have k2:=Lib.hid (show W2.heap[w.heap.size+1]?=some (.cells Z 36 (0,0)) by rw[hW2];exact setRow_heap _ _ Z Z _ (0,0) hk1.out)
 have b2:=Lib.hid (show Below w.heap.size w W2 by rw[hW2];exact below_setRow (below_alloc hbw0.out _) (Nat.le_of_lt hlen.out) _)
 rw[← hW2]
 clear hW2 hk1 hg0 hbw0
 have q0:=hcb0.out W2 b2.out
 go_upto_if 9 with fail
 go_cut [4] (fun v w'=>RrMid w (refX l) w0 v w')
 case first=>
  by_cases h1:x0=1
  ·have e1:(x0 == 1)=true:=by rw[h1];rfl
   have hxe:=Lib.hid (show refX l=rdSl l by unfold refX;rw[← hx0'.out,if_pos h1])
   clear h1
   have hl:=hl'.out
   obtain ⟨A4,hs4,hn4⟩:=refNumCut (some ⟨b,o,none⟩) c l hb'.out 4 8 (by omega) (by omega) (by omega) (by omega)
   obtain ⟨A8,hs8,hn8⟩:=refNumCut (some ⟨b,o,none⟩) c l hb'.out 8 16 (by omega) (by omega) (by omega) (by omega)
   obtain ⟨A16,hs16,hn16⟩:=refNumCut (some ⟨b,o,none⟩) c l hb'.out 16 24 (by omega) (by omega) (by omega) (by omega)
   obtain ⟨A24,hs24,hc24⟩:=cutB (some ⟨b,o,none⟩) l.length c 24 128 l (by omega) (by omega) (by omega)
   have hv4:=val_bound 4 ((l.take 8).drop 4) (part_len l 4 8 (by omega)) (part_mem hb'.out)
   have hrd:rdSl l=⟨true,valL ((l.take 8).drop 4),valL ((l.take 16).drop 8),valL ((l.take 24).drop 16),l.drop 24⟩:=rfl
   obtain ⟨V4,hV4⟩:∃ V,V=valL ((l.take 8).drop 4):=⟨_,rfl⟩
   obtain ⟨V8,hV8⟩:∃ V,V=valL ((l.take 16).drop 8):=⟨_,rfl⟩
   obtain ⟨V16,hV16⟩:∃ V,V=valL ((l.take 24).drop 16):=⟨_,rfl⟩
   obtain ⟨L24,hL24⟩:∃ V,V=l.drop 24:=⟨_,rfl⟩
   have hL24l:L24.length=104:=by rw[hL24,List.length_drop,hl]
   have hc24':=hc24 w0 hC0'.out
   rw[List.take_of_length_le (show l.length≤128 by omega),← hL24] at hc24'
   rw[← hV4] at hn4 hv4 hrd
   rw[← hV8] at hn8 hrd
   rw[← hV16] at hn16 hrd
   rw[← hL24] at hrd
   have v40:0≤V4:=hv4.1
   have v41:V4≤4294967295:=by have:=hv4.2;have e:(256:Int) ^ 4=4294967296:=(by decide);omega
   clear hV4 hV8 hV16 hL24 hv4
   rw[hl] at hs4 hs8 hs16 hs24
   have s4:=Lib.hid (show ∀ W:World,(Instr.slice 23 (.slice (some ⟨b,o,none⟩) 128 c) (some (.int .i64 4)) (some (.int .i64 8)) none).run Try.prog W=.ok (.slice A4 4 (c - 4)) W from hs4)
   have s8:=Lib.hid (show ∀ W:World,(Instr.slice 23 (.slice (some ⟨b,o,none⟩) 128 c) (some (.int .i64 8)) (some (.int .i64 16)) none).run Try.prog W=.ok (.slice A8 8 (c - 8)) W from hs8)
   have s16:=Lib.hid (show ∀ W:World,(Instr.slice 23 (.slice (some ⟨b,o,none⟩) 128 c) (some (.int .i64 16)) (some (.int .i64 24)) none).run Try.prog W=.ok (.slice A16 8 (c - 16)) W from hs16)
   have s24:=Lib.hid (show ∀ W:World,(Instr.slice 23 (.slice (some ⟨b,o,none⟩) 128 c) (some (.int .i64 24)) (some (.int .i64 128)) none).run Try.prog W=.ok (.slice A24 104 (c - 24)) W from hs24)
   have n4:=Lib.hid (fun (W:World) (h:Below w.heap.size w W)=>show Calls Try.prog 65 #[.slice A4 4 (c - 4)] W _ from hn4 W (Kd.C_below hC'.out h))
   have n8:=Lib.hid (fun (W:World) (h:Below w.heap.size w W)=>show Calls Try.prog 65 #[.slice A8 8 (c - 8)] W _ from hn8 W (Kd.C_below hC'.out h))
   have n16:=Lib.hid (fun (W:World) (h:Below w.heap.size w W)=>show Calls Try.prog 65 #[.slice A16 8 (c - 16)] W _ from hn16 W (Kd.C_below hC'.out h))
   obtain ⟨G,hG⟩:∃ G:Array Value,G=(slcl (refX l) A24 (c - 24)).toArray:=⟨_,rfl⟩
   have hGb:=Lib.hid (show ∀ (W:World),(Instr.build 36 #[(0,.bool true),(1,.int .i64 (wrap64 V4)),(2,.int .u64 V8),(3,.int .u64 V16),(4,.slice A24 104 (c - 24))]).run Try.prog W=.ok (.agg G) W from fun W=>by
    rw[hG,hxe.out,hrd,w64 V4 (by omega) (by omega)]
    have:=run_build W _ _ _ (builtSr true V4 V8 V16 A24 104 (c - 24))
    rw[← hL24l] at this ⊢
    exact this)
   have hGs:=Lib.hid (show (Try.prog.info? 36).map (·.size)=some G.size by rw[hG];exact szSr)
   have hGo:=Lib.hid (show G.all (·.oneCell')=true by rw[hG];exact slcl_one _ _ _)
   have hGZ:=Lib.hid (show Z.size=G.size by rw[hG,hZ'.out];rfl)
   have hG':=Lib.hid hG
   have hfc:=Lib.hid (show Kd.C (Kd.int .u8) w0 A24 (refX l).wrap.length (refX l).wrap∧(refX l).wrap.length≤c - 24 by
    have ew:(refX l).wrap=L24:=by rw[hxe.out,hrd]
    rw[ew,hL24l]
    exact ⟨hc24',by omega⟩)
   clear hs4 hs8 hs16 hs24 hn4 hn8 hn16 hc24 hc24' hrd hL24l hG hl
   go_wp2_with fail
   refine start_ (n:=14) (S:=fun w'=>Below w.heap.size w w'∧w'.heap[w.heap.size]?=some (.cells Z 36 (0,0))∧w'.heap[w.heap.size+1]?=some (.cells Z 36 (0,0))) (ds:=[13]) #[false,false,false,false,false,false,false,false,false,false,false,false,false,false] (by kernel_rfl) rfl rfl (by exact ⟨below_drew b2.out,g2.out,k2.out⟩) (fun hHeld=>?_)
   refine pure_ (i:=0) (N:=some 10) (v:=?_) (a':=?_) #[true,false,false,false,false,false,false,false,false,false,false,false,false,false] rfl rfl (by kernel_rfl) (fun _ _ _ h=>h) (Or.inl ⟨by rfl,?_⟩) ?_ ?_
   rotate_left
   ·intro w';go_simp;with_reducible rfl
   rotate_left
   ·simp only[Act.put,sZ0,sZ1,sZ2,i64_w,i32_w];rfl
   refine pure_ (i:=1) (N:=some 11) (v:=?_) (a':=?_) #[true,true,false,false,false,false,false,false,false,false,false,false,false,false] rfl rfl (by kernel_rfl) (fun _ _ _ h=>h) (Or.inl ⟨by rfl,?_⟩) ?_ ?_
   rotate_left
   ·intro w'
    refine (exec_slice_lh w' 23 _ Try.underlying23 _ _ _ (by rfl) (.slice (some ⟨b,o,none⟩) 128 c) (.int .i64 4) (.int .i64 8) _ (by rfl) (by rfl) (by rfl) (s4.out w')).trans ?_;with_reducible rfl
   rotate_left
   ·simp only[Act.put,sZ0,sZ1,sZ2,i64_w,i32_w];rfl
   refine pure_ (i:=4) (N:=some 14) (v:=?_) (a':=?_) #[true,true,false,false,true,false,false,false,false,false,false,false,false,false] rfl rfl (by kernel_rfl) (fun _ _ _ h=>h) (Or.inl ⟨by rfl,?_⟩) ?_ ?_
   rotate_left
   ·intro w';go_simp;with_reducible rfl
   rotate_left
   ·simp only[Act.put,sZ0,sZ1,sZ2,i64_w,i32_w];rfl
   refine pure_ (i:=5) (N:=some 15) (v:=?_) (a':=?_) #[true,true,false,false,true,true,false,false,false,false,false,false,false,false] rfl rfl (by kernel_rfl) (fun _ _ _ h=>h) (Or.inl ⟨by rfl,?_⟩) ?_ ?_
   rotate_left
   ·intro w'
    refine (exec_slice_lh w' 23 _ Try.underlying23 _ _ _ (by rfl) (.slice (some ⟨b,o,none⟩) 128 c) (.int .i64 8) (.int .i64 16) _ (by rfl) (by rfl) (by rfl) (s8.out w')).trans ?_;with_reducible rfl
   rotate_left
   ·simp only[Act.put,sZ0,sZ1,sZ2,i64_w,i32_w];rfl
   refine pure_ (i:=7) (N:=some 17) (v:=?_) (a':=?_) #[true,true,false,false,true,true,false,true,false,false,false,false,false,false] rfl rfl (by kernel_rfl) (fun _ _ _ h=>h) (Or.inl ⟨by rfl,?_⟩) ?_ ?_
   rotate_left
   ·intro w';go_simp;with_reducible rfl
   rotate_left
   ·simp only[Act.put,sZ0,sZ1,sZ2,i64_w,i32_w];rfl
   refine pure_ (i:=8) (N:=some 18) (v:=?_) (a':=?_) #[true,true,false,false,true,true,false,true,true,false,false,false,false,false] rfl rfl (by kernel_rfl) (fun _ _ _ h=>h) (Or.inl ⟨by rfl,?_⟩) ?_ ?_
   rotate_left
   ·intro w'
    refine (exec_slice_lh w' 23 _ Try.underlying23 _ _ _ (by rfl) (.slice (some ⟨b,o,none⟩) 128 c) (.int .i64 16) (.int .i64 24) _ (by rfl) (by rfl) (by rfl) (s16.out w')).trans ?_;with_reducible rfl
   rotate_left
   ·simp only[Act.put,sZ0,sZ1,sZ2,i64_w,i32_w];rfl
   refine pure_ (i:=10) (N:=some 20) (v:=?_) (a':=?_) #[true,true,false,false,true,true,false,true,true,false,true,false,false,false] rfl rfl (by kernel_rfl) (fun _ _ _ h=>h) (Or.inl ⟨by rfl,?_⟩) ?_ ?_
   rotate_left
   ·intro w';go_simp;with_reducible rfl
   rotate_left
   ·simp only[Act.put,sZ0,sZ1,sZ2,i64_w,i32_w];rfl
   refine pure_ (i:=11) (N:=some 21) (v:=?_) (a':=?_) #[true,true,false,false,true,true,false,true,true,false,true,true,false,false] rfl rfl (by kernel_rfl) (fun _ _ _ h=>h) (Or.inl ⟨by rfl,?_⟩) ?_ ?_
   rotate_left
   ·intro w'
    refine (exec_slice_lh w' 23 _ Try.underlying23 _ _ _ (by rfl) (.slice (some ⟨b,o,none⟩) 128 c) (.int .i64 24) (.int .i64 128) _ (by rfl) (by rfl) (by rfl) (s24.out w')).trans ?_;with_reducible rfl
   rotate_left
   ·simp only[Act.put,sZ0,sZ1,sZ2,i64_w,i32_w];rfl
   refine one_ (i:=2) (N:=some 12) #[true,true,true,false,true,true,false,true,true,false,true,true,false,false] rfl rfl (by kernel_rfl) (by decide) (fun K hK=>?_)
   refine goes_ Try.func65 (by kernel_rfl) rfl #[.slice A4 4 (c - 4)] (by rfl) rfl rfl (by (try simp only[List.map_toArray,List.map_cons,List.map_nil]);first | done | rfl) ?_
   refine (n4.out _ hHeld.1).mono ?_
   rintro e wn ⟨rfl,hb⟩
   refine ⟨_,rfl,?_⟩
   refine hK.out _ _ ⟨below_step hHeld.1 hb,heap_below hHeld.2.1 hb,heap_below hHeld.2.2 hb⟩ (fun hHeld=>?_)
   (try have hH:=Lib.hid hHeld)
   clear hb
   clear hK K;refine norm_ (a':=?_) ?_ ?_
   rotate_left
   ·show Act.put _ (some 12) _=_
    simp only[Act.put,sZ0,sZ1,sZ2,i64_w,i32_w];rfl
   refine pure_ (i:=3) (N:=some 13) (v:=?_) (a':=?_) #[true,true,true,true,true,true,false,true,true,false,true,true,false,false] rfl rfl (by kernel_rfl) (fun _ _ _ h=>h) (Or.inl ⟨by rfl,?_⟩) ?_ ?_
   rotate_left
   ·intro w';go_simp;with_reducible rfl
   rotate_left
   ·simp only[Act.put,sZ0,sZ1,sZ2,i64_w,i32_w];rfl
   refine one_ (i:=6) (N:=some 16) #[true,true,true,true,true,true,true,true,true,false,true,true,false,false] rfl rfl (by kernel_rfl) (by decide) (fun K hK=>?_)
   refine goes_ Try.func65 (by kernel_rfl) rfl #[.slice A8 8 (c - 8)] (by rfl) rfl rfl (by (try simp only[List.map_toArray,List.map_cons,List.map_nil]);first | done | rfl) ?_
   refine (n8.out _ hHeld.1).mono ?_
   rintro e wn ⟨rfl,hb⟩
   refine ⟨_,rfl,?_⟩
   refine hK.out _ _ ⟨below_step hHeld.1 hb,heap_below hHeld.2.1 hb,heap_below hHeld.2.2 hb⟩ (fun hHeld=>?_)
   (try have hH:=Lib.hid hHeld)
   clear hb
   clear hK K;refine norm_ (a':=?_) ?_ ?_
   rotate_left
   ·show Act.put _ (some 16) _=_
    simp only[Act.put,sZ0,sZ1,sZ2,i64_w,i32_w];rfl
   refine one_ (i:=9) (N:=some 19) #[true,true,true,true,true,true,true,true,true,true,true,true,false,false] rfl rfl (by kernel_rfl) (by decide) (fun K hK=>?_)
   refine goes_ Try.func65 (by kernel_rfl) rfl #[.slice A16 8 (c - 16)] (by rfl) rfl rfl (by (try simp only[List.map_toArray,List.map_cons,List.map_nil]);first | done | rfl) ?_
   refine (n16.out _ hHeld.1).mono ?_
   rintro e wn ⟨rfl,hb⟩
   refine ⟨_,rfl,?_⟩
   refine hK.out _ _ ⟨below_step hHeld.1 hb,heap_below hHeld.2.1 hb,heap_below hHeld.2.2 hb⟩ (fun hHeld=>?_)
   (try have hH:=Lib.hid hHeld)
   clear hb
   clear hK K;refine norm_ (a':=?_) ?_ ?_
   rotate_left
   ·show Act.put _ (some 19) _=_
    simp only[Act.put,sZ0,sZ1,sZ2,i64_w,i32_w];rfl
   refine pure_ (i:=12) (N:=some 22) (v:=?_) (a':=?_) #[true,true,true,true,true,true,true,true,true,true,true,true,true,false] rfl rfl (by kernel_rfl) (fun _ _ _ h=>h) (Or.inl ⟨by rfl,?_⟩) ?_ ?_
   rotate_left
   ·intro w'
    have hq:=hGb.out w';go_simp;with_reducible rfl
   rotate_left
   ·simp only[Act.put,sZ0,sZ1,sZ2,i64_w,i32_w];rfl
   refine last_ (i:=13) (N:=none) #[true,true,true,true,true,true,true,true,true,true,true,true,true,true] rfl rfl (by kernel_rfl) (by decide) (fun K hK=>?_)
   refine step_store 36 (.tmp 4) (.tmp 22) (w.heap.size+1) G 36 Z (by rfl) rfl (by rfl) (by rfl) (by rfl) hH.out.2.2 hGs.out hGZ.out hGo.out ?_
   intro wn hA1 hbut hbel
   refine hK.out _ _ ?_
   have hfin':=Lib.hid (show RrMid w (refX l) w0 (.pointer (some ⟨w.heap.size+1,0,none⟩)) wn from ⟨_,A24,c - 24,rfl,by rw[hA1,hG'.out],hfc.out.1,hfc.out.2,hlen.out,by rw[← hZ'.out];exact (hbut.2 _ (lt_of_heap hH.out.2.1) (Nat.ne_of_lt hlen.out)).trans hH.out.2.1,hH.out.1.trans (hbel _ (Nat.le_of_lt hlen.out))⟩)
   clear hA1 hbut hbel
   clear hK K;refine done_ (by kernel_rfl) ?_
   go_step;go_step
   go_meet
   exact hfin'.out
  have e1:(x0 == 1)=false:=by simpa using h1
  have hxe:=Lib.hid (show refX l=slZero by unfold refX;rw[← hx0'.out,if_neg h1])
  clear h1
  go_wp2_with fail
  go_meet
  exact ⟨w.heap.size+1,none,0,rfl,by rw[hxe.out];rw[k2.out,hZ'.out],by rw[hxe.out];exact Kd.C_nil _ _,by rw[hxe.out];exact Nat.le_refl _,hlen.out,by rw[← hZ'.out];exact g2.out,b2.out⟩
 case rest=>
  obtain ⟨g4,AX,cX,rfl,hg4,hCX,hcX,hlt,hgZ,hbw⟩:=hcut
  have hfit:=refX_fit l hl'.out hb'.out
  obtain ⟨X,hX⟩:∃ X,X=refX l:=⟨_,rfl⟩
  rw[← hX] at hg4 hCX hcX hR' hfit
  have hCW:=Lib.hid (fun (W:World) (h:Below wc.heap.size wc W)=>show Kd.C (Kd.int .u8) W AX X.wrap.length X.wrap from Kd.C_below hCX (below_step (below_step hw0'.out hbw) h))
  have hri:=Lib.hid (fun (W:World) (h:Below wc.heap.size wc W)=>nepentheref17_Right.calls X.used X.size X.epoch X.count AX cX X.wrap (slRight X) W (hCW.out W h) hcX (refSlRight_eq X))
  have hby:=Lib.hid (fun (W:World) (h:Below wc.heap.size wc W)=>nepentheref17_Bytes.calls 200 X.used X.size X.epoch X.count AX cX X.wrap (slBytes X) W (hCW.out W h) hcX (slBytes_eq X hfit 0))
  have hsm:=Lib.hid (fun (W:World) (A1:Option Addr) (c1:Nat) (h:Below wc.heap.size wc W) (h1:Kd.C (Kd.int .u8) W A1 (slBytes X).length (slBytes X)) (h2:(slBytes X).length≤c1)=>show Calls Try.prog 20 #[.slice A1 (slBytes X).length c1,.slice (some ⟨b,o,none⟩) 128 c] W (fun e w'=>e=.returned (.bool (decide (slBytes X=l)))∧Drawn0 W w') from by
   have:=same_any (slBytes X) l (by have:=hfit.2.2.2.2.2.2;unfold slBytes;split <;> simp[bigL_length,zL] <;> omega) W A1 c1 (some ⟨b,o,none⟩) c h1 h2 (Kd.C_below hC'.out (below_step hbw h)) (by rw[hl'.out];exact hc)
   rw[hl'.out] at this
   exact this)
  obtain ⟨c0,c1,c2,c3,c4⟩:=sl_cells hg4
  have hg4':=Lib.hid hg4
  have hgZ':=Lib.hid (show wc.heap[w.heap.size]?=some (.cells Z 36 (0,0)) by rw[hZ'.out];exact hgZ)
  have hbw':=Lib.hid hbw
  have hCX':=Lib.hid hCX
  have hcX':=Lib.hid hcX
  obtain ⟨CX,hCXa⟩:∃ CX,CX=(slcl X AX cX).toArray:=⟨_,rfl⟩
  rw[← hCXa] at hg4'
  have hsz4:=Lib.hid (show (Try.prog.info? 36).map (·.size)=some CX.size by rw[hCXa];exact szSr)
  have hone4:=Lib.hid (show CX.all (·.oneCell')=true by rw[hCXa];exact slcl_one _ _ _)
  have hZX:=Lib.hid (show Z.size=CX.size by rw[hZ'.out,hCXa];rfl)
  have hCXa':=Lib.hid hCXa
  clear hg4 hCX hcX hlt hgZ hbw hfit hX hCXa
  cases hr:slRight X
  ·rw[hr] at hri
   have hfin:=Lib.hid (show R=none by rw[← hR'.out,if_neg (by rw[hr];simp)])
   clear hr
   go_wp2_with (first
    |((with_reducible go_at_call 46);refine (hri.out _ (Below.refl _ _)).mono ?_;rintro e w5 ⟨rfl,hb⟩;have hb5:=Lib.hid hb;have g5:=Lib.hid (heap_below hgZ'.out hb);clear hb)
    |(with_reducible refine wpList_store_row rfl 36 _ _ rfl w.heap.size Z rfl rfl 36 Z g5.out hszZ.out rfl honeZ.out ?_))
   have hq:=setRow_heap w5 w.heap.size Z Z 36 (0,0) g5.out
   refine bodyPost_ret (v:=.tuple #[.agg Z,.bool false]) (results_ct rfl _ _ w.heap.size 36 _ (0,0) _ (by rfl) hq Try.underlying36 rfl hszZ.out (by rfl)) rfl ?_
   rw[hfin.out]
   exact ⟨none,0,by rw[hZ'.out];rfl,Kd.C_nil _ _,Nat.le_refl _,below_setRow (below_step hbw'.out hb5.out) (Nat.le_refl _) _⟩
  rw[hr] at hri
  by_cases hq0:slBytes X=l
  ·rw[decide_eq_true hq0] at hsm
   have hfin:=Lib.hid (show R=some X by rw[← hR'.out,if_pos ⟨hr,hq0⟩])
   clear hr hq0
   go_wp2_with (first
    |((with_reducible go_at_call 46);refine (hri.out _ (Below.refl _ _)).mono ?_;rintro e w5 ⟨rfl,hb⟩;have hb5:=Lib.hid hb;have d0:=pw_cell_below hb c0;have d1:=pw_cell_below hb c1;have d2:=pw_cell_below hb c2;have d3:=pw_cell_below hb c3;have d4:=pw_cell_below hb c4;clear hb)
    |((with_reducible go_at_call 53);refine (hby.out _ hb5.out).mono ?_;rintro e w6 ⟨v6,rfl,hR6,hb⟩;obtain ⟨A6,c6,rfl⟩:=Kd.R_slice hR6;obtain ⟨-,hc6,hC6⟩:=Kd.R_reads' hR6;have hc6':=Lib.hid hc6;have hC6':=Lib.hid hC6;have hb6:=Lib.hid (below_step hb5.out hb);clear hb hR6 hc6 hC6 d0 d1 d2 d3 d4)
    |((with_reducible go_at_call 20);refine (hsm.out _ _ _ hb6.out hC6'.out hc6'.out).mono ?_;rintro e w7 ⟨rfl,hd⟩;have hb7:=Lib.hid (below_step hb6.out (drawn_below hd));have g7:=Lib.hid (heap_below hgZ'.out hb7.out);have k7:=Lib.hid (heap_below hg4'.out hb7.out);clear hd)
    |(with_reducible refine wpList_load_row rfl 36 _ rfl g4 rfl 36 CX (0,0) _ k7.out Try.underlying36 rfl hsz4.out ?_)
    |(with_reducible refine wpList_store_row rfl 36 _ _ rfl w.heap.size CX rfl rfl 36 Z g7.out hsz4.out hZX.out hone4.out ?_))
   have hq:=setRow_heap w7 w.heap.size Z CX 36 (0,0) g7.out
   refine bodyPost_ret (v:=.tuple #[.agg CX,.bool true]) (results_ct rfl _ _ w.heap.size 36 _ (0,0) _ (by rfl) hq Try.underlying36 rfl hsz4.out (by rfl)) rfl ?_
   rw[hfin.out]
   exact ⟨AX,cX,by rw[hCXa'.out];rfl,hCX'.out,hcX'.out,below_setRow (below_step hbw'.out hb7.out) (Nat.le_refl _) _⟩
  rw[decide_eq_false hq0] at hsm
  have hfin:=Lib.hid (show R=none by rw[← hR'.out,if_neg (fun h=>hq0 h.2)])
  clear hr hq0
  go_wp2_with (first
   |((with_reducible go_at_call 46);refine (hri.out _ (Below.refl _ _)).mono ?_;rintro e w5 ⟨rfl,hb⟩;have hb5:=Lib.hid hb;have d0:=pw_cell_below hb c0;have d1:=pw_cell_below hb c1;have d2:=pw_cell_below hb c2;have d3:=pw_cell_below hb c3;have d4:=pw_cell_below hb c4;clear hb)
   |((with_reducible go_at_call 53);refine (hby.out _ hb5.out).mono ?_;rintro e w6 ⟨v6,rfl,hR6,hb⟩;obtain ⟨A6,c6,rfl⟩:=Kd.R_slice hR6;obtain ⟨-,hc6,hC6⟩:=Kd.R_reads' hR6;have hc6':=Lib.hid hc6;have hC6':=Lib.hid hC6;have hb6:=Lib.hid (below_step hb5.out hb);clear hb hR6 hc6 hC6 d0 d1 d2 d3 d4)
   |((with_reducible go_at_call 20);refine (hsm.out _ _ _ hb6.out hC6'.out hc6'.out).mono ?_;rintro e w7 ⟨rfl,hd⟩;have hb7:=Lib.hid (below_step hb6.out (drawn_below hd));have g7:=Lib.hid (heap_below hgZ'.out hb7.out);clear hd)
   |(with_reducible refine wpList_store_row rfl 36 _ _ rfl w.heap.size Z rfl rfl 36 Z g7.out hszZ.out rfl honeZ.out ?_))
  have hq:=setRow_heap w7 w.heap.size Z Z 36 (0,0) g7.out
  refine bodyPost_ret (v:=.tuple #[.agg Z,.bool false]) (results_ct rfl _ _ w.heap.size 36 _ (0,0) _ (by rfl) hq Try.underlying36 rfl hszZ.out (by rfl)) rfl ?_
  rw[hfin.out]
  exact ⟨none,0,by rw[hZ'.out];rfl,Kd.C_nil _ _,Nat.le_refl _,below_setRow (below_step hbw'.out hb7.out) (Nat.le_refl _) _⟩
end Go.Proofs.Ytbajioiiaamokaa.Own
