/- WrA, pruned (slim.py). -/
import Derived.Test.YtiogdomjmjiahaaZW14
import Derived.Test.YtiogdomjmjiahaaZW11
import Derived.Test.YtiogdomjmjiahaaZW12
import Derived.Test.YtiogdomjmjiahaaZW6
import Derived.Test.YtiogdomjmjiahaaZW7
import Derived.Test.YtiogdomjmjiahaaZW4
import Derived.Test.YtiogdomjmjiahaaZW20
namespace Go.Proofs.Ytiogdomjmjiahaa.Own
open Go.RowKit Go.Proofs.Ytiogdomjmjiahaa.Arr Go.Proofs.Ytiogdomjmjiahaa.QA Go.Proofs.Ytiogdomjmjiahaa.QB Go.Proofs.YtiogdomjmjiahaaW.PrintWords Go.Proofs.YtiogdomjmjiahaaW.PrintLast Go.Proofs.YtiogdomjmjiahaaW.PrintMore
set_option linter.unusedVariables false
set_option linter.unusedSimpArgs false
theorem own_ne {w : World} {base e size n g : Nat} {v : Value} {xs : List Value} {cs : Array Value} {t : TypeId} {fr : Nat × Nat} (h : w.ownsRow base e size v n xs) (hg : w.heap[g]? = some (.cells cs t fr)) (ht : t ≠ e) : ∀ k, v.ownBlock = some k → k ≠ g := by
  rintro k hk rfl
  rcases h.2 with ⟨rfl, _⟩ | ⟨g', cap, cur, rfl, _, hgg, _⟩
  · simp [Value.ownBlock] at hk
  · simp [Value.ownBlock] at hk
    subst hk
    rw [hg] at hgg
    exact ht (by injection hgg with e; injection e)
end Go.Proofs.Ytiogdomjmjiahaa.Own
