/- CmY, pruned (slim.py). -/
import Derived.Test.YtiogdomjmjiahaaZE11
import Derived.Test.YtiogdomjmjiahaaZE13
namespace Go.Proofs.Ytiogdomjmjiahaa.Own
open Go.RowKit Go.Proofs.Ytiogdomjmjiahaa.Arr Go.Proofs.Ytiogdomjmjiahaa.QA Go.Proofs.Ytiogdomjmjiahaa.QB Go.Proofs.YtiogdomjmjiahaaW.PrintWords Go.Proofs.YtiogdomjmjiahaaW.PrintLast Go.Proofs.YtiogdomjmjiahaaW.PrintMore
set_option linter.unusedVariables false
set_option linter.unusedSimpArgs false
theorem rd_nat (l : List Int) (i : Nat) : rd l (i : Int) = l.getD i 0 := by unfold rd; rw [Int.toNat_natCast]
end Go.Proofs.Ytiogdomjmjiahaa.Own
