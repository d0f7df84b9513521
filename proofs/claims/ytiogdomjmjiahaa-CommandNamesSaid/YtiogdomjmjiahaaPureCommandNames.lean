/- CommandNames: plain. -/
import Derived.Test.YtiogdomjmjiahaaQBx1
namespace Go.Proofs.Ytiogdomjmjiahaa.Pure
open Go.RowKit Go.Proofs.Ytiogdomjmjiahaa.QA Go.Proofs.Ytiogdomjmjiahaa.QB Go.Proofs.Ytiogdomjmjiahaa.Own Go.Proofs.YtiogdomjmjiahaaW.PrintWords Go.Proofs.YtiogdomjmjiahaaW.PrintLast
theorem name_same (a : Int) : nepentheref28_Name.f a = some (nameB a) := by
  by_cases h : 0 ≤ a ∧ a ≤ 15
  · have : a = 0 ∨ a = 1 ∨ a = 2 ∨ a = 3 ∨ a = 4 ∨ a = 5 ∨ a = 6 ∨ a = 7 ∨ a = 8 ∨ a = 9 ∨ a = 10 ∨ a = 11 ∨ a = 12 ∨ a = 13 ∨ a = 14 ∨ a = 15 := by omega
    rcases this with rfl | rfl | rfl | rfl | rfl | rfl | rfl | rfl | rfl | rfl | rfl | rfl | rfl | rfl | rfl | rfl <;> rfl
  · have hn : nameB a = ⟨#[111, 116, 104, 101, 114]⟩ := by
      rw [nameB, if_neg (by omega)]; rfl
    rw [hn]
    unfold nepentheref28_Name.f
    rw [Option.bind_some]
    by_cases h0 : a < 0
    · rw [if_pos h0]
    · rw [if_neg h0, if_pos (by simp only [List.length_cons, List.length_nil]; omega)]
theorem CommandNames : nepenthelaw28_CommandNames.Pure := by
  intro a0 _
  unfold nepenthelaw28_CommandNames.f
  rw [name_same, show command_Name.f a0 = some (nameB a0) from rfl, Option.bind_some, Option.bind_some, if_pos rfl]
  rfl
end Go.Proofs.Ytiogdomjmjiahaa.Pure
