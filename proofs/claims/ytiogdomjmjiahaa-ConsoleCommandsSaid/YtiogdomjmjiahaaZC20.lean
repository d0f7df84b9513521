/- WrB, pruned (slim.py). -/
import Derived.Test.YtiogdomjmjiahaaZC19
import Derived.Test.YtiogdomjmjiahaaZC16
namespace Go.Proofs.Ytiogdomjmjiahaa.Own
open Go.RowKit Go.Proofs.Ytiogdomjmjiahaa.Arr Go.Proofs.Ytiogdomjmjiahaa.QA Go.Proofs.Ytiogdomjmjiahaa.QB Go.Proofs.YtiogdomjmjiahaaW.PrintWords Go.Proofs.YtiogdomjmjiahaaW.PrintLast Go.Proofs.YtiogdomjmjiahaaW.PrintMore
set_option linter.unusedVariables false
set_option linter.unusedSimpArgs false
def numW (s : List Int × Bool) (n : Int) : List Int × Bool := if 0 ≤ n ∧ n ≤ 999999999 then (wordL s.1 (numLs n), s.2) else (s.1, true)
theorem digM_byt (f : Nat) : ∀ (m : Nat), ∀ x ∈ digM f m, byt x := by
  induction f with
  | zero => intro m x hx; simp [digM] at hx
  | succ f ih =>
    intro m x hx
    unfold digM at hx
    split at hx
    · simp at hx
    · rcases List.mem_cons.1 hx with rfl | h
      · constructor <;> omega
      · exact ih _ x h
theorem decL_byt (n : Nat) : ∀ x ∈ decL n, byt x := by
  intro x hx
  unfold decL at hx
  rw [List.mem_reverse] at hx
  rcases List.mem_cons.1 hx with rfl | h
  · constructor <;> omega
  · exact digM_byt _ _ x h
theorem numLs_byt (n : Int) : ∀ x ∈ numLs n, byt x := by
  intro x hx
  unfold numLs at hx
  split at hx
  · rcases List.mem_cons.1 hx with rfl | h
    · constructor <;> omega
    · exact decL_byt _ x h
  · exact decL_byt _ x hx
set_option maxHeartbeats 4000000 in
set_option maxRecDepth 100000 in
theorem wnumber_any (base g : Nat) (w : World) (b : List Int) (n : Int) (bad : Bool) (h : WrAt base g w b bad) (hl : b.length ≤ 100000000000) :
    Calls Try.prog 94 #[.pointer (some ⟨g, 0, none⟩), .int .i64 n] w (WrPost base g w (numW (b, bad) n).1 (numW (b, bad) n).2) := by
  by_cases hok : 0 ≤ n ∧ n ≤ 999999999
  · unfold numW
    rw [if_pos hok]
    have hnum := Lib.hid (fun w1 => health_Number.calls 80 n (numS n) w1 (number_eq n (by omega) (by omega) 0))
    have hword := Lib.hid (fun (w1 : World) (h1 : WrAt base g w1 b bad) => word_any base g w1 b (numLs n) bad h1 (numLs_byt n) (by have := numLs_len n; omega))
    have hS : numS n = strOfNums (numLs n) := rfl
    rw [← hS] at hword
    obtain ⟨S, hSS⟩ : ∃ S, S = numS n := ⟨_, rfl⟩
    rw [← hSS] at hnum hword
    obtain ⟨B, hB⟩ : ∃ B, B = wordL b (numLs n) := ⟨_, rfl⟩
    rw [← hB] at hword ⊢
    have h0 : ¬ n < 0 := by omega
    have h1 : ¬ (999999999 : Int) < n := by omega
    have hh := Lib.hid h
    have hlt := Lib.hid (by obtain ⟨v, hg, _⟩ := h.at_; exact lt_of_heap hg : g < w.heap.size)
    clear h hl hok hS hSS hB
    go_enter Try.func94, Try.ntmps94
    go_wp2_with (first
      | ((with_reducible go_at_call 29); refine (hnum.out _).mono ?_; rintro e w1 ⟨rfl, hb⟩; have hb' := Lib.hid hb; clear hb)
      | ((with_reducible go_at_call 92); refine (hword.out _ (hh.out.keep hb'.out)).mono ?_; rintro e w2 ⟨rfl, hat, hbl, hwk⟩; have hat' := Lib.hid hat; have hbl' := Lib.hid (show Below base w w2 from (hb'.out.mono hh.out.le).trans hbl); have hwk' := Lib.hid ((Wk.below hb'.out hlt.out).trans hwk); clear hat hbl hwk))
    go_end0
    exact ⟨rfl, hat'.out, hbl'.out, hwk'.out⟩
  · unfold numW
    rw [if_neg hok]
    obtain ⟨v, hg, ho⟩ := h.at_
    have c1 : w.cell? ⟨g, 1, none⟩ = some (.bool bad) := (blk_cell hg 1).trans rfl
    have f1 := blk_frozen hg 1
    have hfin : WrPost base g w b true (.returned (.tuple #[])) (w.setCell ⟨g, 1, none⟩ (.bool true)) := by
      refine ⟨rfl, ⟨h.lo, by simpa [World.setCell] using h.le, v, heap_setCell_same w g 1 _ _ _ hg, own_move ho (fun k hk => heap_setCell_other _ ⟨g, 1, none⟩ _ _ (own_ne ho hg (by decide) k hk))⟩, (Below.refl _ _).setCell (p := ⟨g, 1, none⟩) h.lo _, ?_⟩
      refine ⟨by simp [World.setCell], fun k hk hkg hr => heap_setCell_other _ ⟨g, 1, none⟩ _ _ hkg, fun k hk => Or.inl ?_⟩
      rw [rowOf_eq (v := v) (c := .bool true) (heap_setCell_same w g 1 _ _ _ hg)] at hk
      rw [rowOf_eq hg]; exact hk
    have hf := Lib.hid hfin
    have hor : n < 0 ∨ (0 ≤ n ∧ 999999999 < n) := by omega
    clear h hg ho hl hok hfin
    rcases hor with h0 | ⟨h0, h1⟩
    · go_enter Try.func94, Try.ntmps94
      go_wp2
      go_end0
      exact hf.out
    · have h0' : ¬ n < 0 := by omega
      clear h0
      go_enter Try.func94, Try.ntmps94
      go_wp2
      go_end0
      exact hf.out
end Go.Proofs.Ytiogdomjmjiahaa.Own
