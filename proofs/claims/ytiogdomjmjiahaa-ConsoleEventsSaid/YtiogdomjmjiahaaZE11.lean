/- CmX, pruned (slim.py). -/
import Derived.Test.YtiogdomjmjiahaaZE10
import Derived.Laws.ResultCell
namespace Go.Proofs.Ytiogdomjmjiahaa.Own
open Go.RowKit Go.Proofs.Ytiogdomjmjiahaa.Arr Go.Proofs.Ytiogdomjmjiahaa.QA Go.Proofs.YtiogdomjmjiahaaW.PrintWords Go.Proofs.YtiogdomjmjiahaaW.PrintLast Go.Proofs.YtiogdomjmjiahaaW.PrintMore
set_option linter.unusedVariables false
set_option linter.unusedSimpArgs false
theorem infoC : (Try.prog.info? 27).map (fun i => (i.zero, i.size)) = some (some (.agg (ccs 0 0 0 0 none 0 0 none 0 0)), 6) := by kernel_rfl
theorem ccs_one (a0 a1 a2 a3 : Int) (A : Option Addr) (n c : Nat) (B : Option Addr) (m d : Nat) : (ccs a0 a1 a2 a3 A n c B m d).all (·.oneCell') = true := by simp [Value.oneCell']
attribute [-go_sem] Instr.build
end Go.Proofs.Ytiogdomjmjiahaa.Own
