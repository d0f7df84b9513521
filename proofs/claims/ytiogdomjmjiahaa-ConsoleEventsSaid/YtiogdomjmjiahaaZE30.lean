/- WrB, pruned (slim.py). -/
import Derived.Test.YtiogdomjmjiahaaZE26
import Derived.Test.YtiogdomjmjiahaaZE24
namespace Go.Proofs.Ytiogdomjmjiahaa.Own
open Go.RowKit Go.Proofs.Ytiogdomjmjiahaa.Arr Go.Proofs.Ytiogdomjmjiahaa.QA Go.Proofs.Ytiogdomjmjiahaa.QB Go.Proofs.YtiogdomjmjiahaaW.PrintWords Go.Proofs.YtiogdomjmjiahaaW.PrintLast Go.Proofs.YtiogdomjmjiahaaW.PrintMore
set_option linter.unusedVariables false
set_option linter.unusedSimpArgs false
theorem digM_byt (f : Nat) : ∀ (m : Nat), ∀ x ∈ digM f m, byt x := by
  induction f with
  | zero => intro m x hx; simp [digM] at hx
  | succ f ih =>
    intro m x hx
    unfold digM at hx
    split at hx
    · simp at hx
    · rcases List.mem_cons.1 hx with rfl | h
      · constructor <;> omega
      · exact ih _ x h
theorem decL_byt (n : Nat) : ∀ x ∈ decL n, byt x := by
  intro x hx
  unfold decL at hx
  rw [List.mem_reverse] at hx
  rcases List.mem_cons.1 hx with rfl | h
  · constructor <;> omega
  · exact digM_byt _ _ x h
theorem numLs_byt (n : Int) : ∀ x ∈ numLs n, byt x := by
  intro x hx
  unfold numLs at hx
  split at hx
  · rcases List.mem_cons.1 hx with rfl | h
    · constructor <;> omega
    · exact decL_byt _ x h
  · exact decL_byt _ x hx
end Go.Proofs.Ytiogdomjmjiahaa.Own
