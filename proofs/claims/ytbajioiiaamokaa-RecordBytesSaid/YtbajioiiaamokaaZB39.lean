/- FtA, pruned (slim.py). -/
import Derived.Test.YtbajioiiaamokaaZB38
namespace Go.Proofs.Ytbajioiiaamokaa.Own
open Go.RowKit Go.Proofs.Ytbajioiiaamokaa.Arr Go.Proofs.Ytbajioiiaamokaa.QB Go.Proofs.YtbajioiiaamokaaW.PrintWords Go.Proofs.YtbajioiiaamokaaW.PrintLast Go.Proofs.YtbajioiiaamokaaW.PrintMore
set_option linter.unusedVariables false
set_option linter.unusedSimpArgs false
attribute [-go_sem] Instr.build
def fitsB (l key:List Int):Bool:=decide (l.drop 592=tagB (blockL key) (l.take 592))
set_option maxHeartbeats 2000000 in
set_option maxRecDepth 100000 in
theorem recFits_any (A:Option Addr) (c:Nat) (l:List Int) (Y:Option Addr) (kc:Nat) (key:List Int) (w:World) (hC:Kd.C (Kd.int .u8) w A l.length l) (hc:l.length≤c) (hY:Kd.C (Kd.int .u8) w Y key.length key) (hl:l.length=624) (hk:key.length=32) (hb:∀ x ∈ l,byt x) :
  Calls Try.prog 22 #[.slice A l.length c,.slice Y key.length kc] w fun e w'=>e=.returned (.bool (fitsB l key))∧Below w.heap.size w w':=by
 obtain ⟨A1,hs1,hC1⟩:=cutF A l.length c 592 l (by omega) hc
 have hs0:=Lib.hid (cut_to A l.length c 592 (by omega))
 have hs1:=Lib.hid hs1
 have hfit:=Lib.hid (fun (W:World) (hW:Below w.heap.size w W)=>by
  have:=macFits_any Y kc key A c (l.take 592) A1 (c - 592) (l.drop 592) W (Kd.C_below hY hW) (by omega) (by rw[List.length_take,Nat.min_eq_left (by omega)];exact C_take (Kd.C_below hC hW) 592 (by omega)) (by rw[List.length_take];omega) (by rw[List.length_take];omega) (by rw[List.length_drop];exact hC1 W (Kd.C_below hC hW)) (by rw[List.length_drop];omega) (by rw[List.length_drop];omega) (fun x hx=>hb x (List.mem_of_mem_drop hx))
  rw[List.length_take,List.length_drop,hk,Nat.min_eq_left (by omega),hl] at this
  exact this)
 rw[hl] at hs0 hs1
 rw[hl,hk]
 have hfb:=Lib.hid (show decide (l.drop 592=tagB (blockL key) (l.take 592))=fitsB l key from rfl)
 obtain ⟨FB,hFB⟩:∃ F,F=fitsB l key:=⟨_,rfl⟩
 have hfit:=Lib.hid (fun (W:World) (hW:Below w.heap.size w W)=>show Calls Try.prog 55 #[.slice Y 32 kc,.slice A 592 c,.slice A1 32 (c - 592)] W (fun e w'=>e=.returned (.bool FB)∧Below W.heap.size W w') from by rw[hFB];exact hfit.out W hW)
 rw[← hFB]
 have c624:=Lib.hid (show 624≤c by omega)
 clear hC hc hY hl hk hb hC1 hfb hFB
 have hb0:=Lib.hid (Below.refl w.heap.size w)
 go_enter Try.func22,Try.ntmps22
 go_wp2_with fail
 refine start_ (n:=9) (S:=fun w'=>Below w.heap.size w w') (ds:=[]) #[false,false,false,false,false,false,false,false,false] (by kernel_rfl) rfl rfl (by exact (below_drew hb0.out)) (fun hHeld=>?_)
 refine pure_ (i:=0) (N:=some 14) (v:=?_) (a':=?_) #[true,false,false,false,false,false,false,false,false] rfl rfl (by kernel_rfl) (fun _ _ _ h=>h) (Or.inl ⟨by rfl,?_⟩) ?_ ?_
 rotate_left
 ·intro w';go_simp;with_reducible rfl
 rotate_left
 ·simp only[Act.put,sZ0,sZ1,sZ2,i64_w,i32_w];rfl
 refine pure_ (i:=1) (N:=some 15) (v:=?_) (a':=?_) #[true,true,false,false,false,false,false,false,false] rfl rfl (by kernel_rfl) (fun _ _ _ h=>h) (Or.inl ⟨by rfl,?_⟩) ?_ ?_
 rotate_left
 ·intro w';go_simp;with_reducible rfl
 rotate_left
 ·simp only[Act.put,sZ0,sZ1,sZ2,i64_w,i32_w];rfl
 refine pure_ (i:=2) (N:=some 16) (v:=?_) (a':=?_) #[true,true,true,false,false,false,false,false,false] rfl rfl (by kernel_rfl) (fun _ _ _ h=>h) (Or.inl ⟨by rfl,?_⟩) ?_ ?_
 rotate_left
 ·intro w';go_simp;with_reducible rfl
 rotate_left
 ·simp only[Act.put,sZ0,sZ1,sZ2,i64_w,i32_w];rfl
 refine pure_ (i:=3) (N:=some 17) (v:=?_) (a':=?_) #[true,true,true,true,false,false,false,false,false] rfl rfl (by kernel_rfl) (fun _ _ _ h=>h) (Or.inl ⟨by rfl,?_⟩) ?_ ?_
 rotate_left
 ·intro w'
  refine (exec_slice_h w' 23 _ Try.underlying23 _ _ (by rfl) (.slice A 624 c) (.int .i64 592) _ (by rfl) (by rfl) (hs0.out w')).trans ?_;with_reducible rfl
 rotate_left
 ·simp only[Act.put,sZ0,sZ1,sZ2,i64_w,i32_w];rfl
 refine pure_ (i:=4) (N:=some 18) (v:=?_) (a':=?_) #[true,true,true,true,true,false,false,false,false] rfl rfl (by kernel_rfl) (fun _ _ _ h=>h) (Or.inl ⟨by rfl,?_⟩) ?_ ?_
 rotate_left
 ·intro w';go_simp;with_reducible rfl
 rotate_left
 ·simp only[Act.put,sZ0,sZ1,sZ2,i64_w,i32_w];rfl
 refine pure_ (i:=5) (N:=some 19) (v:=?_) (a':=?_) #[true,true,true,true,true,true,false,false,false] rfl rfl (by kernel_rfl) (fun _ _ _ h=>h) (Or.inl ⟨by rfl,?_⟩) ?_ ?_
 rotate_left
 ·intro w';go_simp;with_reducible rfl
 rotate_left
 ·simp only[Act.put,sZ0,sZ1,sZ2,i64_w,i32_w];rfl
 refine pure_ (i:=6) (N:=some 20) (v:=?_) (a':=?_) #[true,true,true,true,true,true,true,false,false] rfl rfl (by kernel_rfl) (fun _ _ _ h=>h) (Or.inl ⟨by rfl,?_⟩) ?_ ?_
 rotate_left
 ·intro w'
  refine (exec_slice_l w' 23 _ Try.underlying23 _ _ (by rfl) (.slice A 624 c) (.int .i64 592) _ (by rfl) (by rfl) (hs1.out w')).trans ?_;with_reducible rfl
 rotate_left
 ·simp only[Act.put,sZ0,sZ1,sZ2,i64_w,i32_w];rfl
 refine one_ (i:=7) (N:=some 21) #[true,true,true,true,true,true,true,true,false] rfl rfl (by kernel_rfl) (by decide) (fun K hK=>?_)
 refine goes_ Try.func55 (by kernel_rfl) rfl #[.slice Y 32 kc,.slice A 592 c,.slice A1 32 (c - 592)] (by rfl) rfl rfl (by (try simp only[List.map_toArray,List.map_cons,List.map_nil]);first | done | rfl) ?_
 refine (hfit.out _ hHeld).mono ?_
 rintro e w1 ⟨rfl,hbb⟩
 refine ⟨_,rfl,?_⟩
 refine hK.out _ _ (below_step hHeld hbb) (fun hHeld=>?_)
 have b1:=Lib.hid hHeld
 clear hbb
 clear hK K;refine norm_ (a':=?_) ?_ ?_
 rotate_left
 ·show Act.put _ (some 21) _=_
  simp only[Act.put,sZ0,sZ1,sZ2,i64_w,i32_w];rfl
 refine pure_ (i:=8) (N:=some 4) (v:=?_) (a':=?_) #[true,true,true,true,true,true,true,true,true] rfl rfl (by kernel_rfl) (fun _ _ _ h=>h) (Or.inl ⟨by rfl,?_⟩) ?_ ?_
 rotate_left
 ·intro w';go_simp;with_reducible rfl
 rotate_left
 ·simp only[Act.put,sZ0,sZ1,sZ2,i64_w,i32_w];rfl
 refine done_ (by kernel_rfl) ?_
 go_wp2_with fail
 go_ret
 exact ⟨rfl,b1.out⟩
end Go.Proofs.Ytbajioiiaamokaa.Own
