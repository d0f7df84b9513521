/- The plain statement of TwiceDoubles: any bytes, doubled so often, or why not. -/
import Derived.Test.YthmahaoadoeoaaaQx2
import Derived.Test.YthmahaoadoeoaaaTwR
namespace Go.Proofs.Ythmahaoadoeoaaa.Pure
open Go.RowKit Go.Proofs.Ythmahaoadoeoaaa.Q Go.Proofs.YthmahaoadoeoaaaW.PrintWords Go.Proofs.YthmahaoadoeoaaaW.PrintLast Go.Proofs.Ythmahaoadoeoaaa.Core Go.Proofs.Ythmahaoadoeoaaa.Own Go.Proofs.Ythmahaoadoeoaaa.Tw
theorem TwiceDoubles : nepenthelaw08_TwiceDoubles.Pure := by
  intro l0 a1 _ _ hw hn
  have hn' : -9223372036854775808 ≤ a1 ∧ a1 ≤ 9223372036854775807 := by
    simpa [Lit.wf, IntKind.min, IntKind.max, IntKind.signed, IntKind.bits] using hn
  suffices H : ∀ k, 1000 < k → nepenthelaw08_TwiceDoubles.f k l0 a1 = some true from ⟨1001, H _ (by decide)⟩
  intro k hk
  obtain ⟨k, rfl⟩ : ∃ m, k = m + 1 := ⟨k - 1, by omega⟩
  obtain ⟨k, rfl⟩ : ∃ m, k = m + 1 := ⟨k - 1, by omega⟩
  obtain ⟨k, rfl⟩ : ∃ m, k = m + 1 := ⟨k - 1, by omega⟩
  unfold nepenthelaw08_TwiceDoubles.f
  by_cases hmid : a1 > 300 ∧ a1 ≤ 65536
  · rw [if_pos hmid.1, decide_eq_true hmid.2]
    simp only [nepenthelaw08_TwiceDoubles.j0]
    rw [if_pos trivial, awake_eq]; rfl
  have hj : (if a1 > 300 then nepenthelaw08_TwiceDoubles.j0 (k + 1 + 1 + 1) l0 a1 (decide (a1 ≤ 65536)) else nepenthelaw08_TwiceDoubles.j0 (k + 1 + 1 + 1) l0 a1 false) = nepenthelaw08_TwiceDoubles.j0 (k + 1 + 1 + 1) l0 a1 false := by
    by_cases h : a1 > 300
    · rw [if_pos h, decide_eq_false (by omega)]
    · rw [if_neg h]
  rw [hj]
  simp only [nepenthelaw08_TwiceDoubles.j0]
  rw [if_neg (by decide)]
  by_cases hl : l0.length = 16
  · obtain ⟨v, rfl⟩ := bys_of l0 hl hw
    rw [double_own]
    simp only [Option.bind_some]
    by_cases hr : 0 ≤ a1 ∧ a1 ≤ 65536
    · obtain ⟨n, rfl⟩ := Int.eq_ofNat_of_zero_le hr.1
      rw [times_own v n (by omega)]
      simp only [Option.bind_some]
      rw [if_pos (by rw [bys_length]; rfl), if_pos trivial, double_eq _ (by omega)]
      simp only [Option.bind_some]
      rw [same_eq _ _ _ (by rw [bys_length]; decide) (by rw [bys_length]; omega)]
      simp only [decide_true, Option.bind_some, Bool.not_true]
      simp only [nepenthelaw08_TwiceDoubles.j1]
      rw [if_neg (by decide), if_neg (by omega), decide_eq_false (by omega)]
      simp only [nepenthelaw08_TwiceDoubles.j2]
      rw [if_neg (by decide), if_pos trivial, times_eq _ (by omega) v n (by omega)]
      simp only [Option.bind_some]
      rw [same_eq _ _ _ (by rw [bys_length]; decide) (by rw [bys_length]; omega)]
      simp only [decide_true, Option.bind_some]
      rw [if_pos trivial, awake_eq]; rfl
    · have ht : twice_Times.f (bys v) a1 = some ([], 2) := by
        unfold twice_Times.f; rw [if_neg (by omega)]
      rw [ht]
      simp only [Option.bind_some]
      rw [if_pos (by rw [bys_length]; rfl), if_pos trivial, double_eq _ (by omega)]
      simp only [Option.bind_some]
      rw [same_eq _ _ _ (by rw [bys_length]; decide) (by rw [bys_length]; omega)]
      simp only [decide_true, Option.bind_some, Bool.not_true]
      simp only [nepenthelaw08_TwiceDoubles.j1]
      rw [if_neg (by decide)]
      have hj2 : (if a1 < 0 then nepenthelaw08_TwiceDoubles.j2 (k + 1) (bys v) a1 [] 2 true else nepenthelaw08_TwiceDoubles.j2 (k + 1) (bys v) a1 [] 2 (decide (a1 > 65536))) = nepenthelaw08_TwiceDoubles.j2 (k + 1) (bys v) a1 [] 2 true := by
        by_cases h : a1 < 0
        · rw [if_pos h]
        · rw [if_neg h, decide_eq_true (by omega)]
      rw [hj2]
      simp only [nepenthelaw08_TwiceDoubles.j2]
      rw [if_pos trivial, if_pos trivial, if_pos (by simp), awake_eq]; rfl
  · have ht : ∀ n, twice_Times.f l0 n = some ([], 2) := by
      intro n; unfold twice_Times.f; rw [if_neg (by omega)]
    have hd : twice_Double.f l0 = some ([], 2) := by
      unfold twice_Double.f; rw [ht]; rfl
    rw [hd, ht]
    simp only [Option.bind_some]
    rw [if_neg (by omega), if_pos trivial, if_pos trivial, if_pos (by simp [wrap64]), awake_eq]; rfl
end Go.Proofs.Ythmahaoadoeoaaa.Pure
