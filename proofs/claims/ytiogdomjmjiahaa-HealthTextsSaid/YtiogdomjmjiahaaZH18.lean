/- HtA, pruned (slim.py). -/
import Derived.Test.YtiogdomjmjiahaaZH17
namespace Go.Proofs.Ytiogdomjmjiahaa.Own
open Go.RowKit Go.Proofs.Ytiogdomjmjiahaa.Arr Go.Proofs.Ytiogdomjmjiahaa.QA Go.Proofs.Ytiogdomjmjiahaa.QB Go.Proofs.YtiogdomjmjiahaaW.PrintWords Go.Proofs.YtiogdomjmjiahaaW.PrintLast Go.Proofs.YtiogdomjmjiahaaW.PrintMore
set_option linter.unusedVariables false
set_option linter.unusedSimpArgs false
def StrAt (base g:Nat) (w:World) (L:List Int):Prop:=base≤g∧base≤w.heap.size∧w.heap[g]?=some (.cells #[.string (strOfNums L)] 9 (0,0))
theorem StrAt.keep {base g:Nat} {w w':World} {L:List Int} (h:StrAt base g w L) (hb:Below w.heap.size w w'):StrAt base g w' L:=⟨h.1,Nat.le_trans h.2.1 hb.size,heap_below h.2.2 hb⟩
theorem StrAt.lt {base g:Nat} {w:World} {L:List Int} (h:StrAt base g w L):g<w.heap.size:=lt_of_heap h.2.2
def StrPost (base g:Nat) (w:World) (L:List Int) (e:Ending) (w':World):Prop:=e=.returned (.tuple #[])∧StrAt base g w' L∧Below base w w'∧But g w w'
set_option maxHeartbeats 4000000 in
set_option maxRecDepth 100000 in
theorem htext1_any (base g:Nat) (w:World) (L s:List Int) (n:Int) (h:StrAt base g w L) (hn0 : -9223372036854775808≤n) (hn1:n<9223372036854775808) (hl:L.length≤100000000) (hs:s.length≤1000) :
  Calls Try.prog 62 #[.string (strOfNums s),.int .i64 n,.pointer (some ⟨g,0,none⟩)] w (StrPost base g w (L++(s ++ [32]++numLs n))):=by
 have hnum:=Lib.hid (fun w1=>health_Number.calls 80 n (numS n) w1 (number_eq n hn0 hn1 0))
 have hnl:=numLs_len n
 obtain ⟨S0,hS0⟩:∃ S,S=strOfNums L:=⟨_,rfl⟩
 obtain ⟨S1,hS1⟩:∃ S,S=strOfNums s:=⟨_,rfl⟩
 obtain ⟨S2,hS2⟩:∃ S,S=strOfNums (s ++ [32]):=⟨_,rfl⟩
 obtain ⟨S3,hS3⟩:∃ S,S=strOfNums (numLs n):=⟨_,rfl⟩
 obtain ⟨S4,hS4⟩:∃ S,S=strOfNums (s ++ [32]++numLs n):=⟨_,rfl⟩
 obtain ⟨S5,hS5⟩:∃ S,S=strOfNums (L++(s ++ [32]++numLs n)):=⟨_,rfl⟩
 have a1:=Lib.hid (show ∀ W:World,(binOp .add 9 (.string S1) (.string { data:=#[32] })).run Try.prog W=.ok (.string S2) W by rw[hS1,hS2];exact fun W=>str_add W s [32] (by simp;omega))
 have a2:=Lib.hid (show ∀ W:World,(binOp .add 9 (.string S2) (.string S3)).run Try.prog W=.ok (.string S4) W by rw[hS2,hS3,hS4];exact fun W=>str_add W (s ++ [32]) (numLs n) (by simp;omega))
 have a3:=Lib.hid (show ∀ W:World,(binOp .add 9 (.string S0) (.string S4)).run Try.prog W=.ok (.string S5) W by rw[hS0,hS4,hS5];exact fun W=>str_add W L (s ++ [32]++numLs n) (by simp;omega))
 rw[show numS n=S3 from hS3.symm] at hnum
 have hh:=Lib.hid h
 have h0:=Lib.hid (show w.heap[g]?=some (.cells #[.string S0] 9 (0,0)) by rw[hS0];exact h.2.2)
 have hfin:=Lib.hid (show ∀ W:World,Below w.heap.size w W→W.heap[g]?=some (.cells #[.string S0] 9 (0,0))→StrPost base g w (L++(s ++ [32]++numLs n)) (.returned (.tuple #[])) (W.setCell ⟨g,0,none⟩ (.string S5)) by
  intro W hb hg
  refine ⟨rfl,⟨h.1,Nat.le_trans h.2.1 (Nat.le_trans hb.size (by simp[World.setCell])),?_⟩,(hb.mono h.2.1).setCell h.1 _,⟨Nat.le_trans hb.size (by simp[World.setCell]),fun k hk hkg=>(heap_setCell_other _ ⟨g,0,none⟩ _ _ hkg).trans (hb.block k hk)⟩⟩
  rw[← hS5]
  exact heap_setCell_same W g 0 _ _ _ hg)
 rw[← hS1]
 clear hS0 hS1 hS2 hS3 hS4 hS5 h hn0 hn1 hl hs hnl
 go_enter Try.func62,Try.ntmps62
 go_wp2_with fail
 refine start_ (n:=8) (S:=fun w'=>w'.heap[g]?=some (.cells #[.string S0] 9 (0,0))) (ds:=[7]) #[false,false,false,false,false,false,false,false] (by kernel_rfl) rfl rfl (by exact h0.out) (fun hHeld=>?_)
 refine take_ (i:=0) (N:=some 5) (v:=?_) (a':=?_) #[true,false,false,false,false,false,false,false] rfl rfl (by kernel_rfl) (fun _ _ _ h=>h) (Or.inl ⟨by rfl,?_⟩) hHeld ?_ ?_
 rotate_left
 ·intro w' hS
  have hq:=(blk_cell hS 0).trans rfl
  go_simp;with_reducible rfl
 rotate_left
 ·simp only[Act.put,sZ0,sZ1,sZ2,i64_w,i32_w];rfl
 refine pure_ (i:=1) (N:=some 6) (v:=?_) (a':=?_) #[true,true,false,false,false,false,false,false] rfl rfl (by kernel_rfl) (fun _ _ _ h=>h) (Or.inl ⟨by rfl,?_⟩) ?_ ?_
 rotate_left
 ·intro w';go_simp;with_reducible rfl
 rotate_left
 ·simp only[Act.put,sZ0,sZ1,sZ2,i64_w,i32_w];rfl
 refine pure_ (i:=2) (N:=some 7) (v:=?_) (a':=?_) #[true,true,true,false,false,false,false,false] rfl rfl (by kernel_rfl) (fun _ _ _ h=>h) (Or.inl ⟨by rfl,?_⟩) ?_ ?_
 rotate_left
 ·intro w'
  refine (exec_add w' 9 _ _ _ (by rfl) (.string S1) (.string { data:=#[32] }) _ (by rfl) (by rfl) (a1.out w')).trans ?_;with_reducible rfl
 rotate_left
 ·simp only[Act.put,sZ0,sZ1,sZ2,i64_w,i32_w];rfl
 refine pure_ (i:=3) (N:=some 8) (v:=?_) (a':=?_) #[true,true,true,true,false,false,false,false] rfl rfl (by kernel_rfl) (fun _ _ _ h=>h) (Or.inl ⟨by rfl,?_⟩) ?_ ?_
 rotate_left
 ·intro w';go_simp;with_reducible rfl
 rotate_left
 ·simp only[Act.put,sZ0,sZ1,sZ2,i64_w,i32_w];rfl
 refine one_ (i:=4) (N:=some 9) #[true,true,true,true,true,false,false,false] rfl rfl (by kernel_rfl) (by decide) (fun K hK=>?_)
 refine goes_ Try.func29 (by kernel_rfl) rfl #[.int .i64 n] (by rfl) rfl rfl (by (try simp only[List.map_toArray,List.map_cons,List.map_nil]);first | done | rfl) ?_
 refine (hnum.out _).mono ?_
 rintro e w1 ⟨rfl,hb⟩
 refine ⟨_,rfl,?_⟩
 refine hK.out _ _ (heap_below hHeld hb) (fun hHeld=>?_)
 have b1:=Lib.hid (below_step (below_drew (Below.refl w.heap.size w)) hb)
 clear hb
 clear hK K;refine norm_ (a':=?_) ?_ ?_
 rotate_left
 ·show Act.put _ (some 9) _=_
  simp only[Act.put,sZ0,sZ1,sZ2,i64_w,i32_w];rfl
 refine pure_ (i:=5) (N:=some 10) (v:=?_) (a':=?_) #[true,true,true,true,true,true,false,false] rfl rfl (by kernel_rfl) (fun _ _ _ h=>h) (Or.inl ⟨by rfl,?_⟩) ?_ ?_
 rotate_left
 ·intro w'
  refine (exec_add w' 9 _ _ _ (by rfl) (.string S2) (.string S3) _ (by rfl) (by rfl) (a2.out w')).trans ?_;with_reducible rfl
 rotate_left
 ·simp only[Act.put,sZ0,sZ1,sZ2,i64_w,i32_w];rfl
 refine pure_ (i:=6) (N:=some 11) (v:=?_) (a':=?_) #[true,true,true,true,true,true,true,false] rfl rfl (by kernel_rfl) (fun _ _ _ h=>h) (Or.inl ⟨by rfl,?_⟩) ?_ ?_
 rotate_left
 ·intro w'
  refine (exec_add w' 9 _ _ _ (by rfl) (.string S0) (.string S4) _ (by rfl) (by rfl) (a3.out w')).trans ?_;with_reducible rfl
 rotate_left
 ·simp only[Act.put,sZ0,sZ1,sZ2,i64_w,i32_w];rfl
 refine last_ (i:=7) (N:=none) #[true,true,true,true,true,true,true,true] rfl rfl (by kernel_rfl) (by decide) (fun K hK=>?_)
 have hq:=(blk_cell hHeld 0).trans rfl
 have hf:=blk_frozen hHeld 0
 refine skip_ (w1:=w1.setCell ⟨g,0,none⟩ (.string S5)) (by rfl) rfl (by go_simp;done) ?_
 refine hK.out _ _ ?_
 have hp:=Lib.hid (hfin.out w1 b1.out hHeld)
 clear hq hf hHeld
 clear hK K;refine done_ (by kernel_rfl) ?_
 go_end0
 exact hp.out
end Go.Proofs.Ytiogdomjmjiahaa.Own
