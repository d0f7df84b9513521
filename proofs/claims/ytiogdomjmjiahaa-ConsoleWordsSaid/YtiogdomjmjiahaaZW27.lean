/- PureConsoleWords, pruned (slim.py). -/
import Derived.Test.YtiogdomjmjiahaaZW26
namespace Go.Proofs.Ytiogdomjmjiahaa.Pure
open Go.RowKit Go.Proofs.Ytiogdomjmjiahaa.Own Go.Proofs.Ytiogdomjmjiahaa.QA Go.Proofs.Ytiogdomjmjiahaa.QB Go.Proofs.Ytiogdomjmjiahaa.QC Go.Proofs.Ytiogdomjmjiahaa.QD Go.Proofs.YtiogdomjmjiahaaW.PrintWords Go.Proofs.YtiogdomjmjiahaaW.PrintLast
theorem ConsoleWords : nepenthelaw35_ConsoleWords.Pure := by
  intro a0 a1 h0 h1
  refine ⟨20000, ?_⟩
  unfold nepenthelaw35_ConsoleWords.f
  by_cases h : (a0.size : Int) > 2000
  · rw [if_pos h]; rfl
  rw [if_neg h]
  have hx : a0.size ≤ 2000 := by omega
  obtain ⟨r, hr1, hr2, -, hr4⟩ := words_both a0 hx a0.size 0 [] none (by omega) trivial (Nat.le_refl _)
  have e1 : console_Words.f 20000 a0 = some r := by
    unfold console_Words.f
    rw [w64 ((a0.size : Int) + 1) (by omega) (by omega)]
    exact hr1 20000 (by omega)
  have e2 : nepentheref35_Words.f 20000 a0 = some r := by
    unfold nepentheref35_Words.f
    exact hr2 (Or.inr rfl) 20000 (by omega)
  rw [e1, e2, Option.bind_some, Option.bind_some, if_pos rfl]
  exact lawLoop a1 r (by omega) r.length 0 (by omega) 20000 (by omega)
end Go.Proofs.Ytiogdomjmjiahaa.Pure
