/- WrC, pruned (slim.py). -/
import Derived.Test.YtiogdomjmjiahaaZE30
import Derived.Test.YtiogdomjmjiahaaZE21
import Derived.Test.YtiogdomjmjiahaaZE11
import Derived.Lib.ConvBytes
import Derived.Lib.Bytes
namespace Go.Proofs.Ytiogdomjmjiahaa.Own
open Go.RowKit Go.Proofs.Ytiogdomjmjiahaa.Arr Go.Proofs.Ytiogdomjmjiahaa.QA Go.Proofs.Ytiogdomjmjiahaa.QB Go.Proofs.Ytiogdomjmjiahaa.QC Go.Proofs.YtiogdomjmjiahaaW.PrintWords Go.Proofs.YtiogdomjmjiahaaW.PrintLast Go.Proofs.YtiogdomjmjiahaaW.PrintMore
set_option linter.unusedVariables false
set_option linter.unusedSimpArgs false
def hexW (l : List Int) : List Int := if l.length = 0 then [45] else hexL l
theorem hexW_len (l : List Int) : (hexW l).length ≤ 2 * l.length + 1 := by
  unfold hexW; split
  · simp
  · rw [hexL_length]; omega
theorem hexW_byt (l : List Int) (h : ∀ x ∈ l, byt x) : ∀ x ∈ hexW l, byt x := by
  unfold hexW; split
  · intro x hx; simp at hx; subst hx; exact ⟨by omega, by omega⟩
  · exact hexL_byt l h
theorem hex_eq (l : List Int) (h : ∀ x ∈ l, byt x) (hl : l.length ≤ 1000000) : console_hex.f l = some (strOfNums (hexW l)) := by
  unfold console_hex.f hexW
  by_cases h0 : l.length = 0
  · rw [if_pos (by omega), if_pos h0]; rfl
  · rw [if_neg (by omega), if_neg h0]
    unfold octet_Hex.f
    rw [if_pos ⟨by omega, h⟩]; rfl
theorem own_lt {w : World} {base g : Nat} {b : List Int} {bad : Bool} (h : WrAt base g w b bad) (k : Nat) (hk : w.heap.size ≤ k) : rowOf w g ≠ some k := by
  obtain ⟨v, hg, ho⟩ := h.at_
  rw [rowOf_eq hg]
  intro e
  have := (ho.lt k e).2
  omega
theorem WrAt.lt {base g : Nat} {w : World} {b : List Int} {bad : Bool} (h : WrAt base g w b bad) : g < w.heap.size := by obtain ⟨v, hg, _⟩ := h.at_; exact lt_of_heap hg
end Go.Proofs.Ytiogdomjmjiahaa.Own
