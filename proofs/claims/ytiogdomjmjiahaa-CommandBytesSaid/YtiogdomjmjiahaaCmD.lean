/- Sectors and ranges of commands, plain. -/
import Derived.Test.YtiogdomjmjiahaaCmC
namespace Go.Proofs.Ytiogdomjmjiahaa.Own
open Go.RowKit Go.Proofs.Ytiogdomjmjiahaa.QA Go.Proofs.YtiogdomjmjiahaaW.PrintWords Go.Proofs.YtiogdomjmjiahaaW.PrintLast
set_option linter.unusedVariables false
set_option linter.unusedSimpArgs false
theorem formed_6 (ns lba cnt s : Int) (P D : List Int) (h : nepentheref28_Formed.f 9 6 ns lba cnt P D s = some true) : cnt ≤ 32 := by
  apply Decidable.byContradiction; intro hc
  (rcases (show 0 ≤ ns ∧ ns < 4 ∧ ns ≤ 3 ∧ ¬ ns < 0 ∧ ¬ 3 < ns ∨ ¬ 0 ≤ ns ∧ ns < 0 ∧ ¬ 3 < ns ∧ ns < 4 ∧ ns ≤ 3 ∨ ¬ ns < 4 ∧ 0 ≤ ns ∧ ¬ ns ≤ 3 ∧ ¬ ns < 0 ∧ 3 < ns by omega) with ⟨n1, n2, n3, n4, n5⟩ | ⟨n1, n2, n3, n4, n5⟩ | ⟨n1, n2, n3, n4, n5⟩) <;> simp [nepentheref28_Formed.f, nepentheref28_Formed.j0, nepentheref28_Formed.j1, nepentheref28_Formed.j2, nepentheref28_asks.f, n1, n2, n3, n4, n5, hc] at h
theorem formed_8 (ns lba cnt s : Int) (P D : List Int) (h : nepentheref28_Formed.f 9 8 ns lba cnt P D s = some true) : cnt ≤ 32 := by
  apply Decidable.byContradiction; intro hc
  (rcases (show 0 ≤ ns ∧ ns < 4 ∧ ns ≤ 3 ∧ ¬ ns < 0 ∧ ¬ 3 < ns ∨ ¬ 0 ≤ ns ∧ ns < 0 ∧ ¬ 3 < ns ∧ ns < 4 ∧ ns ≤ 3 ∨ ¬ ns < 4 ∧ 0 ≤ ns ∧ ¬ ns ≤ 3 ∧ ¬ ns < 0 ∧ 3 < ns by omega) with ⟨n1, n2, n3, n4, n5⟩ | ⟨n1, n2, n3, n4, n5⟩ | ⟨n1, n2, n3, n4, n5⟩) <;> simp [nepentheref28_Formed.f, nepentheref28_Formed.j0, nepentheref28_Formed.j1, nepentheref28_Formed.j2, nepentheref28_asks.f, n1, n2, n3, n4, n5, hc] at h
theorem formed_7 (ns lba cnt s : Int) (P D : List Int) (h : nepentheref28_Formed.f 9 7 ns lba cnt P D s = some true) : ¬ s = 0 ∧ wrap64 ((D.length : Int) / s) ≤ 32 := by
  apply Decidable.byContradiction; intro hc
  (rcases (show 0 ≤ ns ∧ ns < 4 ∧ ns ≤ 3 ∧ ¬ ns < 0 ∧ ¬ 3 < ns ∨ ¬ 0 ≤ ns ∧ ns < 0 ∧ ¬ 3 < ns ∧ ns < 4 ∧ ns ≤ 3 ∨ ¬ ns < 4 ∧ 0 ≤ ns ∧ ¬ ns ≤ 3 ∧ ¬ ns < 0 ∧ 3 < ns by omega) with ⟨n1, n2, n3, n4, n5⟩ | ⟨n1, n2, n3, n4, n5⟩ | ⟨n1, n2, n3, n4, n5⟩) <;> (rcases (show (0 < s ∧ 1 ≤ s ∧ ¬ s = 0) ∨ (¬ 0 < s ∧ ¬ 1 ≤ s) by omega) with ⟨s1, s2, s3⟩ | ⟨s1, s2⟩) <;> (rcases (show (0 < D.length) ∨ ¬ 0 < D.length by omega) with e1 | e1) <;> (rcases (Decidable.em ((D.length : Int) % s = 0)) with m1 | m1) <;> (rcases (Decidable.em (wrap64 ((D.length : Int) / s) ≤ 32)) with w1 | w1)
  all_goals first
    | (refine absurd ⟨s3, w1⟩ hc; done)
    | (simp [nepentheref28_Formed.f, nepentheref28_Formed.j0, nepentheref28_Formed.j1, nepentheref28_Formed.j2, nepentheref28_asks.f, n1, n2, n3, n4, n5, s1, s2, s3, e1, m1, w1] at h; done)
    | (simp [nepentheref28_Formed.f, nepentheref28_Formed.j0, nepentheref28_Formed.j1, nepentheref28_Formed.j2, nepentheref28_asks.f, n1, n2, n3, n4, n5, s1, s2, e1, m1, w1] at h; done)
theorem sectors_eq (k ns lba cnt s : Int) (P D : List Int) : ∃ F n, nepentheref28_Formed.f 9 k ns lba cnt P D s = some F ∧ command_Check.f 9 k ns lba cnt P D s = some (if F = true then 0 else 1) ∧ nepentheref28_Sectors.f 9 k ns lba cnt P D s = some n ∧ command_Sectors.f 9 k ns lba cnt P D s = some n ∧ n ≤ 32 := by
  obtain ⟨F, h1, h2⟩ := check_eq k ns lba cnt s P D
  cases F with
  | false =>
    refine ⟨false, 0, h1, h2, ?_, ?_, by omega⟩
    · rw [nepentheref28_Sectors.f, h1]; simp [nepentheref28_Sectors.j0]
    · rw [command_Sectors.f, h2]; simp
  | true =>
    have h3 : command_Check.f 9 k ns lba cnt P D s = some 0 := h2
    by_cases e6 : k = 6
    · subst e6
      refine ⟨true, cnt, h1, h2, ?_, ?_, formed_6 _ _ _ _ _ _ h1⟩
      · rw [nepentheref28_Sectors.f, h1]; simp [nepentheref28_Sectors.j0]
      · rw [command_Sectors.f, h3]; simp [command_Sectors.j0]
    by_cases e8 : k = 8
    · subst e8
      refine ⟨true, cnt, h1, h2, ?_, ?_, formed_8 _ _ _ _ _ _ h1⟩
      · rw [nepentheref28_Sectors.f, h1]; simp [nepentheref28_Sectors.j0]
      · rw [command_Sectors.f, h3]; simp [command_Sectors.j0]
    by_cases e7 : k = 7
    · subst e7
      obtain ⟨hs, hw⟩ := formed_7 _ _ _ _ _ _ h1
      refine ⟨true, wrap64 ((D.length : Int) / s), h1, h2, ?_, ?_, hw⟩
      · rw [nepentheref28_Sectors.f, h1]; simp [nepentheref28_Sectors.j0, hs]
      · rw [command_Sectors.f, h3]; simp [command_Sectors.j0, hs]
    · refine ⟨true, 0, h1, h2, ?_, ?_, by omega⟩
      · rw [nepentheref28_Sectors.f, h1]; simp [nepentheref28_Sectors.j0, e6, e7, e8]
      · rw [command_Sectors.f, h3]; simp [command_Sectors.j0, e6, e7, e8]
theorem w64' (x : Int) (h0 : -9223372036854775808 ≤ x) (h1 : x < 9223372036854775808) : wrap64 x = x := by unfold wrap64; omega
theorem checks_eq (k ns lba cnt size s : Int) (P D : List Int) (hs : size ≤ 100000) : ∃ F n r, nepentheref28_Formed.f 9 k ns lba cnt P D s = some F ∧ command_Check.f 9 k ns lba cnt P D s = some (if F = true then 0 else 1) ∧ nepentheref28_Sectors.f 9 k ns lba cnt P D s = some n ∧ command_Sectors.f 9 k ns lba cnt P D s = some n ∧ nepentheref28_Range.f 9 k ns lba cnt P D size s = some r ∧ command_Range.f 9 k ns lba cnt P D size s = some r := by
  obtain ⟨F, n, h1, h2, h3, h4, hn⟩ := sectors_eq k ns lba cnt s P D
  cases F with
  | false =>
    refine ⟨false, n, 1, h1, h2, h3, h4, ?_, ?_⟩
    · rw [nepentheref28_Range.f, h1]; simp
    · rw [command_Range.f, h2]; simp
  | true =>
    have h5 : command_Check.f 9 k ns lba cnt P D s = some 0 := h2
    have hj : ∀ b, nepentheref28_Range.j0 9 b k ns lba cnt P D = command_Range.j0 9 b k ns lba cnt P D := fun b => by rw [nepentheref28_Range.j0, command_Range.j0]
    have hsome : ∀ b, ∃ r, command_Range.j0 9 b k ns lba cnt P D = some r := by
      intro b
      rw [command_Range.j0]
      (repeat' split) <;> exact ⟨_, rfl⟩
    have hd : ∃ b, nepentheref28_Range.f 9 k ns lba cnt P D size s = command_Range.j0 9 b k ns lba cnt P D ∧ command_Range.f 9 k ns lba cnt P D size s = command_Range.j0 9 b k ns lba cnt P D := by
      rw [nepentheref28_Range.f, command_Range.f, h1, h5, h3, h4]
      simp only [Option.bind_some, if_true, hj]
      by_cases hp : n > 0
      · simp only [if_pos hp]
        by_cases hl : lba < 0
        · exact ⟨true, by rw [if_pos hl], by rw [if_pos hl]⟩
        · simp only [if_neg hl]
          by_cases hz : n > size
          · refine ⟨true, ?_, by rw [if_pos hz]⟩
            by_cases hb : lba > 1000000
            · rw [if_pos hb]
            · rw [if_neg hb]
              by_cases hm : size < 0
              · rw [if_pos hm]
              · rw [if_neg hm, w64' _ (by omega) (by omega), decide_eq_true (by omega)]
          · simp only [if_neg hz]
            rw [w64' (size - n) (by omega) (by omega)]
            by_cases hb : lba > 1000000
            · exact ⟨true, by rw [if_pos hb], by rw [decide_eq_true (by omega)]⟩
            · rw [if_neg hb, if_neg (by omega), w64' _ (by omega) (by omega)]
              refine ⟨decide (lba > size - n), ?_, rfl⟩
              rw [show decide (lba + n > size) = decide (lba > size - n) from decide_eq_decide.2 (by omega)]
      · simp only [if_neg hp]
        exact ⟨false, rfl, rfl⟩
    obtain ⟨b, hr1, hr2⟩ := hd
    obtain ⟨r, hr⟩ := hsome b
    exact ⟨true, n, r, h1, h2, h3, h4, hr1.trans hr, hr2.trans hr⟩
end Go.Proofs.Ytiogdomjmjiahaa.Own
