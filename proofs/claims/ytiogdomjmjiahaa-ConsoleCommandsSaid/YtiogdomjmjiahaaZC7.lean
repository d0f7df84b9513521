/- CmO, pruned (slim.py). -/
import Derived.Test.YtiogdomjmjiahaaZC6
namespace Go.Proofs.Ytiogdomjmjiahaa.Own
open Go.RowKit Go.Proofs.Ytiogdomjmjiahaa.Arr Go.Proofs.Ytiogdomjmjiahaa.QA Go.Proofs.YtiogdomjmjiahaaW.PrintWords Go.Proofs.YtiogdomjmjiahaaW.PrintLast Go.Proofs.YtiogdomjmjiahaaW.PrintMore
set_option linter.unusedVariables false
set_option linter.unusedSimpArgs false
abbrev ccs (a0 a1 a2 a3 : Int) (A : Option Addr) (n c : Nat) (B : Option Addr) (m d : Nat) : Array Value := #[.int .i64 a0, .int .i64 a1, .int .i64 a2, .int .i64 a3, .slice A n c, .slice B m d]
theorem infoW : (Try.prog.info? 34).map (fun i => (i.zero, i.size)) = some (some (.agg (ccs 0 0 0 0 none 0 0 none 0 0)), 6) := by kernel_rfl
theorem sizeW : (Try.prog.info? 34).map (·.size) = some 6 := by kernel_rfl
theorem sizeC : (Try.prog.info? 27).map (·.size) = some 6 := by kernel_rfl
theorem builtW (a0 a1 a2 a3 : Int) (A : Option Addr) (n c : Nat) (B : Option Addr) (m d : Nat) : Try.prog.built 34 (#[(0, .int .i64 a0), (1, .int .i64 a1), (2, .int .i64 a2), (3, .int .i64 a3), (4, .slice A n c), (5, .slice B m d)] : Array (Nat × Value)).toList = some (ccs a0 a1 a2 a3 A n c B m d) := by kernel_rfl
end Go.Proofs.Ytiogdomjmjiahaa.Own
