/- WrA, pruned (slim.py). -/
import Derived.Test.YtiogdomjmjiahaaZC15
import Derived.Test.YtiogdomjmjiahaaZC18
namespace Go.Proofs.Ytiogdomjmjiahaa.Own
open Go.RowKit Go.Proofs.Ytiogdomjmjiahaa.Arr Go.Proofs.Ytiogdomjmjiahaa.QA Go.Proofs.Ytiogdomjmjiahaa.QB Go.Proofs.YtiogdomjmjiahaaW.PrintWords Go.Proofs.YtiogdomjmjiahaaW.PrintLast Go.Proofs.YtiogdomjmjiahaaW.PrintMore
set_option linter.unusedVariables false
set_option linter.unusedSimpArgs false
theorem own_ne {w : World} {base e size n g : Nat} {v : Value} {xs : List Value} {cs : Array Value} {t : TypeId} {fr : Nat × Nat} (h : w.ownsRow base e size v n xs) (hg : w.heap[g]? = some (.cells cs t fr)) (ht : t ≠ e) : ∀ k, v.ownBlock = some k → k ≠ g := by
  rintro k hk rfl
  rcases h.2 with ⟨rfl, _⟩ | ⟨g', cap, cur, rfl, _, hgg, _⟩
  · simp [Value.ownBlock] at hk
  · simp [Value.ownBlock] at hk
    subst hk
    rw [hg] at hgg
    exact ht (by injection hgg with e; injection e)
structure WrAt (base g : Nat) (w : World) (b : List Int) (bad : Bool) : Prop where
  lo : base ≤ g
  le : base ≤ w.heap.size
  at_ : ∃ v, w.heap[g]? = some (.cells #[v, .bool bad] 135 (0, 0)) ∧ w.ownsRow base 5 1 v b.length (nums .u8 b)
theorem WrAt.keep {base g : Nat} {w w' : World} {b : List Int} {bad : Bool} (h : WrAt base g w b bad) (hb : Below w.heap.size w w') : WrAt base g w' b bad := by
  obtain ⟨v, hg, ho⟩ := h.at_
  exact ⟨h.lo, Nat.le_trans h.le hb.size, v, heap_below hg hb, own_move ho (fun k hk => hb.block k (ho.lt k hk).2)⟩
def rowOf (w : World) (g : Nat) : Option Nat := match w.heap[g]? with | some (.cells cs _ _) => (cs.getD 0 undef).ownBlock | _ => none
structure Wk (g : Nat) (W w : World) : Prop where
  size : W.heap.size ≤ w.heap.size
  blk : ∀ k, k < W.heap.size → k ≠ g → rowOf W g ≠ some k → w.heap[k]? = W.heap[k]?
  row : ∀ k, rowOf w g = some k → rowOf W g = some k ∨ W.heap.size ≤ k
theorem Wk.refl (g : Nat) (w : World) : Wk g w w := ⟨Nat.le_refl _, fun _ _ _ _ => rfl, fun _ h => Or.inl h⟩
theorem Wk.trans {g : Nat} {A B C : World} (h : Wk g A B) (k : Wk g B C) : Wk g A C := by
  refine ⟨Nat.le_trans h.size k.size, fun j hj hg hr => ?_, fun j hj => ?_⟩
  · refine (k.blk j (Nat.lt_of_lt_of_le hj h.size) hg (fun e => ?_)).trans (h.blk j hj hg hr)
    rcases h.row j e with h1 | h1
    · exact hr h1
    · omega
  · rcases k.row j hj with h1 | h1
    · exact h.row j h1
    · exact Or.inr (Nat.le_trans h.size h1)
theorem rowOf_eq {w : World} {g : Nat} {v c : Value} {t : TypeId} {fr : Nat × Nat} (h : w.heap[g]? = some (.cells #[v, c] t fr)) : rowOf w g = v.ownBlock := by
  unfold rowOf
  rw [h]
  rfl
theorem Wk.below {g : Nat} {W w : World} (h : Below W.heap.size W w) (hg : g < W.heap.size) : Wk g W w := by
  refine ⟨h.size, fun k hk _ _ => h.block k hk, fun k hk => Or.inl ?_⟩
  unfold rowOf at hk ⊢
  rw [h.block g hg] at hk
  exact hk
theorem Wk.store {g : Nat} {W w1 w2 : World} {v v' c : Value} {t : TypeId} (hk : Wk g W w1) (hg : w1.heap[g]? = some (.cells #[v, c] t (0, 0))) (hgr : w1.grownBy w2 v.ownBlock) (hne : v.ownBlock ≠ some g)
    (hnew : ∀ k, v'.ownBlock = some k → v.ownBlock = some k ∨ w1.heap.size ≤ k) : Wk g W (w2.setCell ⟨g, 0, none⟩ v') := by
  have hg2 : w2.heap[g]? = some (.cells #[v, c] t (0, 0)) := (hgr.block g (lt_of_heap hg) (fun e => hne e.symm)).trans hg
  have hg3 := heap_setCell_same w2 g 0 _ _ v' hg2
  refine hk.trans ⟨Nat.le_trans hgr.size (by simp [World.setCell]), fun k h1 h2 h3 => ?_, fun k h1 => ?_⟩
  · rw [rowOf_eq hg] at h3
    rw [heap_setCell_other _ ⟨g, 0, none⟩ _ _ h2]
    exact hgr.block k h1 (fun e => h3 e.symm)
  · rw [rowOf_eq (v := v') (c := c) hg3] at h1
    rw [rowOf_eq hg]
    exact hnew k h1
def sepL (b : List Int) : List Int := if 0 < b.length ∧ b.getD (b.length - 1) 0 ≠ 10 then [32] else []
def wordL (b m : List Int) : List Int := b ++ sepL b ++ m
def WrPost (base g : Nat) (w : World) (b : List Int) (bad : Bool) (e : Ending) (w' : World) : Prop := e = .returned (.tuple #[]) ∧ WrAt base g w' b bad ∧ Below base w w' ∧ Wk g w w'
theorem wr_store {base g : Nat} {W w1 w2 : World} {v v' : Value} {bad : Bool} {b b' : List Int} (hlo : base ≤ g) (hle : base ≤ w1.heap.size) (hb : Below base W w1) (hg : w1.heap[g]? = some (.cells #[v, .bool bad] 135 (0, 0))) (ho : w1.ownsRow base 5 1 v b.length (nums .u8 b))
    (ho' : w2.ownsRow base 5 1 v' b'.length (nums .u8 b')) (hgr : w1.grownBy w2 v.ownBlock) (hnew : ∀ k, v'.ownBlock = some k → v.ownBlock = some k ∨ w1.heap.size ≤ k) (hwk : Wk g W w1) :
    (w2.cell? ⟨g, 0, none⟩ = some v ∧ w2.frozen? ⟨g, 0, none⟩ = false) ∧ (w2.setCell ⟨g, 0, none⟩ v').heap[g]? = some (.cells #[v', .bool bad] 135 (0, 0)) ∧ (w2.setCell ⟨g, 0, none⟩ v').ownsRow base 5 1 v' b'.length (nums .u8 b') ∧ base ≤ (w2.setCell ⟨g, 0, none⟩ v').heap.size ∧ Below base W (w2.setCell ⟨g, 0, none⟩ v') ∧ Wk g W (w2.setCell ⟨g, 0, none⟩ v') := by
  have hlt := lt_of_heap hg
  have hne : v.ownBlock ≠ some g := fun h => own_ne ho hg (by decide) g h rfl
  have hg2 : w2.heap[g]? = some (.cells #[v, .bool bad] 135 (0, 0)) := (hgr.block g hlt (fun e => hne e.symm)).trans hg
  have hbw : Below base W w2 := hb.grown hgr hle (fun k hk => (ho.lt k hk).1)
  refine ⟨⟨(blk_cell hg2 0).trans rfl, blk_frozen hg2 0⟩, heap_setCell_same w2 g 0 _ _ v' hg2, ?_, Nat.le_trans hle (Nat.le_trans hgr.size (by simp [World.setCell])), hbw.setCell hlo _, hwk.store hg hgr hne hnew⟩
  exact own_move ho' (fun k hk => heap_setCell_other _ _ _ _ (own_ne ho' hg2 (by decide) k hk))
set_option maxHeartbeats 4000000 in
set_option maxRecDepth 100000 in
theorem word_any (base g : Nat) (w : World) (b m : List Int) (bad : Bool) (h : WrAt base g w b bad) (hm : ∀ x ∈ m, byt x) (hl : b.length + m.length ≤ 1099511627776) :
    Calls Try.prog 92 #[.pointer (some ⟨g, 0, none⟩), .string (strOfNums m)] w (WrPost base g w (wordL b m) bad) := by
  obtain ⟨v, hg, ho⟩ := h.at_
  obtain ⟨Av, cv, rfl⟩ := own_slice ho
  have c0 : w.cell? ⟨g, 0, none⟩ = some (.slice Av b.length cv) := (blk_cell hg 0).trans rfl
  have f0 := blk_frozen hg 0
  have hlI : (b.length : Int) ≤ 1099511627776 := by omega
  have ho1 := Lib.hid (fun n => show (w.drewN n).ownsRow base 5 1 (.slice Av b.length cv) b.length (nums .u8 b) from own_move ho (fun k hk => rfl))
  have hg1 := Lib.hid (fun n => show (w.drewN n).heap[g]? = some (.cells #[.slice Av b.length cv, .bool bad] 135 (0, 0)) from hg)
  have hl' := Lib.hid hl
  have hlo := Lib.hid h.lo
  have hle := Lib.hid (fun n => show base ≤ (w.drewN n).heap.size from h.le)
  have hwk := Lib.hid (fun n => show Wk g w (w.drewN n) from Wk.below (pw_below_drewN (Below.refl _ _) n) (lt_of_heap hg))
  have hbw := Lib.hid (fun n => show Below base w (w.drewN n) from pw_below_drewN (Below.refl _ _) n)
  obtain ⟨B1, hB⟩ : ∃ B1, B1 = b ++ [32] := ⟨_, rfl⟩
  have hB1 := Lib.hid hB
  have hB1l := Lib.hid (show B1.length = b.length + 1 by rw [hB, List.length_append]; rfl)
  clear hB
  obtain ⟨s, hs2⟩ : ∃ s, s = strOfNums m := ⟨_, rfl⟩
  have hsrc := Lib.hid (fun (W : World) => src_str W m hm)
  rw [← hs2] at hsrc ⊢
  by_cases hz : b.length = 0
  · have hw : wordL b m = b ++ m := by unfold wordL sepL; rw [if_neg (by omega), List.append_nil]
    obtain ⟨B2, hB⟩ : ∃ B2, B2 = b ++ m := ⟨_, rfl⟩
    have hB2 := Lib.hid hB
    rw [hw, ← hB]
    clear hB
    have hd : decide (0 < b.length) = false := decide_eq_false (by omega)
    clear h ho hg hm hl hs2 hz hw
    go_enter Try.func92, Try.ntmps92
    go_wp2_with fail
    go_quiet (fail)
    go_wp2_with (refine wpList_own_append2 rfl (.tmp 38) (.tmp 39) 9 rfl base (.slice Av b.length cv) b (.string s) m rfl rfl (hsrc.out _) (ho1.out _) (hle.out _) (by have := hl'.out; omega) ?_; intro v' w2 h1 h2 h3; rw [← hB2.out] at h1; obtain ⟨A2, c2, rfl⟩ := own_slice h1; obtain ⟨⟨q, r⟩, S⟩ := wr_store hlo.out (hle.out _) (hbw.out _) (hg1.out _) (ho1.out _) h1 h2 h3 (hwk.out _); have S' := Lib.hid S; clear h1 h2 h3 S)
    go_end0
    exact ⟨rfl, ⟨hlo.out, S'.out.2.2.1, _, S'.out.1, S'.out.2.1⟩, S'.out.2.2.2⟩
  have hd : decide (0 < b.length) = true := decide_eq_true (by omega)
  obtain ⟨gb, cap, cur, hv, hbg, hgg, hnc, hcm, hcs, htake⟩ : ∃ gb cap cur, Value.slice Av b.length cv = .slice (some ⟨gb, 0, none⟩) b.length cap ∧ base ≤ gb ∧ w.heap[gb]? = some (.cells cur 5 (0, 0)) ∧ b.length ≤ cap ∧ cap ≤ maxLen ∧ cur.size = cap * 1 ∧ cur.toList.take (b.length * 1) = nums .u8 b := by
    rcases ho.2 with ⟨_, h0⟩ | h1
    · omega
    · exact h1
  obtain ⟨rfl, rfl⟩ : Av = some ⟨gb, 0, none⟩ ∧ cv = cap := by injection hv with e1 e2 e3; exact ⟨e1, e3⟩
  obtain ⟨x, hx⟩ : ∃ x, x = b.getD (b.length - 1) 0 := ⟨_, rfl⟩
  have hcx : ∀ p : Int, p = (b.length : Int) - 1 → w.cell? ⟨gb, p.toNat, none⟩ = some (.int .u8 x) := by
    rintro p rfl
    have := ho.cells (g := gb) rfl (b.length - 1) (.int .u8 x) (by rw [hx]; simp [nums, List.getD_eq_getElem?_getD]; rw [List.getElem?_eq_getElem (by omega)]; simp)
    rw [Addr.add_lit, Nat.zero_add] at this
    rw [show ((b.length : Int) - 1).toNat = b.length - 1 by omega]
    exact this
  have hcx0 : w.cell? ⟨gb, b.length - 1, none⟩ = some (.int .u8 x) := by have := hcx _ rfl; rw [show ((b.length : Int) - 1).toNat = b.length - 1 by omega] at this; exact this
  have kw1 : IntKind.i64.wrap ((b.length : Int) - 1) = (b.length : Int) - 1 := by rw [IntKind.wrap_i64]; omega
  have kw2 : 0 ≤ (b.length : Int) - 1 := by omega
  have kw3 : ((b.length : Int) - 1).toNat = b.length - 1 := by omega
  have kw4 : (b.length : Int) - 1 < (b.length : Int) := by omega
  clear hv hbg hgg hnc hcm hcs htake hcx
  by_cases h10 : x = 10
  · have hw : wordL b m = b ++ m := by unfold wordL sepL; rw [if_neg (by rw [← hx, h10]; simp), List.append_nil]
    obtain ⟨B2, hB⟩ : ∃ B2, B2 = b ++ m := ⟨_, rfl⟩
    have hB2 := Lib.hid hB
    rw [hw, ← hB]
    clear hB
    have hne : (x != 10) = false := by rw [h10]; rfl
    clear h ho hg hm hl hs2 hz hw hx h10
    go_enter Try.func92, Try.ntmps92
    go_wp2_with fail
    go_quiet (fail)
    go_wp2_with (refine wpList_own_append2 rfl (.tmp 38) (.tmp 39) 9 rfl base (.slice (some ⟨gb, 0, none⟩) b.length cv) b (.string s) m rfl rfl (hsrc.out _) (ho1.out _) (hle.out _) (by have := hl'.out; omega) ?_; intro v' w2 h1 h2 h3; rw [← hB2.out] at h1; obtain ⟨A2, c2, rfl⟩ := own_slice h1; obtain ⟨⟨q, r⟩, S⟩ := wr_store hlo.out (hle.out _) (hbw.out _) (hg1.out _) (ho1.out _) h1 h2 h3 (hwk.out _); have S' := Lib.hid S; clear h1 h2 h3 S)
    go_end0
    exact ⟨rfl, ⟨hlo.out, S'.out.2.2.1, _, S'.out.1, S'.out.2.1⟩, S'.out.2.2.2⟩
  · have hw : wordL b m = b ++ [32] ++ m := by unfold wordL sepL; rw [if_pos (by rw [← hx]; exact ⟨Nat.pos_of_ne_zero hz, h10⟩)]
    obtain ⟨B2, hB⟩ : ∃ B2, B2 = B1 ++ m := ⟨_, rfl⟩
    have hB2 := Lib.hid hB
    rw [hw, ← hB1.out, ← hB]
    clear hB
    have hg1a := Lib.hid (fun n => (heap_skip (w.drewN n) (.cells (ints .u8 [32]) 5 (0, 0)) g (Nat.ne_of_lt (lt_of_heap hg))).trans (hg1.out n))
    have ho1a := Lib.hid (fun n => (ho1.out n).alloc (.cells (ints .u8 [32]) 5 (0, 0)))
    have hwka := Lib.hid (fun n => show Wk g w ((w.drewN n).alloc (.cells (ints .u8 [32]) 5 (0, 0))) from Wk.below (below_alloc (pw_below_drewN (Below.refl _ _) n) _) (lt_of_heap hg))
    have hbwa := Lib.hid (fun n => (hbw.out n).alloc (hle.out n) (.cells (ints .u8 [32]) 5 (0, 0)))
    have hsl := Lib.hid (fun n => show Src Try.prog 1 25 (.slice (some ⟨w.heap.size, 0, none⟩) 1 1) [(32 : Int)].length ([(32 : Int)].map (Value.int .u8)) ((w.drewN n).alloc (.cells (ints .u8 [32]) 5 (0, 0))) from src_lit ((w.drewN n).alloc (.cells (ints .u8 [32]) 5 (0, 0))) w.heap.size [32] (by simp) (heap_at (w.drewN n) _ _ rfl) 1)
    have hlea := Lib.hid (fun n => show base ≤ ((w.drewN n).alloc (.cells (ints .u8 [32]) 5 (0, 0))).heap.size from Nat.le_trans (hle.out n) (by simp))
    have hne : (x != 10) = true := by simpa using h10
    clear h ho hg hm hl hs2 hz hw hx h10
    go_enter Try.func92, Try.ntmps92
    go_wp2_with fail
    go_quiet (fail)
    go_wp2_with (first
      | (refine wpList_own_append2 rfl (.tmp 29) (.tmp 30) 25 rfl base (.slice (some ⟨gb, 0, none⟩) b.length cv) b (.slice (some ⟨w.heap.size, 0, none⟩) 1 1) [32] rfl rfl (hsl.out _) (ho1a.out _) (hlea.out _) (by have := hl'.out; simp only [List.length_singleton]; omega) ?_; intro v' w2 h1 h2 h3; rw [← hB1.out] at h1; obtain ⟨A2, c2, rfl⟩ := own_slice h1; obtain ⟨⟨q, r⟩, S⟩ := wr_store hlo.out (hlea.out _) (hbwa.out _) (hg1a.out _) (ho1a.out _) h1 h2 h3 (hwka.out _); have S1' := Lib.hid S; clear h1 h2 h3 S)
      | (refine wpList_own_append2 rfl (.tmp 38) (.tmp 39) 9 rfl base (.slice A2 B1.length c2) B1 (.string s) m rfl rfl (hsrc.out _) S1'.out.2.1 S1'.out.2.2.1 (by have := hl'.out; have := hB1l.out; omega) ?_; intro v' w3 h1 h2 h3; rw [← hB2.out] at h1; obtain ⟨A3, c3, rfl⟩ := own_slice h1; clear q r; obtain ⟨⟨q, r⟩, S⟩ := wr_store hlo.out S1'.out.2.2.1 S1'.out.2.2.2.1 S1'.out.1 S1'.out.2.1 h1 h2 h3 S1'.out.2.2.2.2; have S2' := Lib.hid S; clear h1 h2 h3 S))
    go_end0
    exact ⟨rfl, ⟨hlo.out, S2'.out.2.2.1, _, S2'.out.1, S2'.out.2.1⟩, S2'.out.2.2.2⟩
end Go.Proofs.Ytiogdomjmjiahaa.Own
