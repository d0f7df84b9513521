/- CommandChecks: the walk over the row's arguments. -/
import Derived.Test.YtiogdomjmjiahaaLwChecks
import Derived.Test.YtiogdomjmjiahaaOpC
namespace Go.Proofs.Ytiogdomjmjiahaa.Own
open Go.RowKit Go.Proofs.Ytiogdomjmjiahaa.Opz Go.Proofs.YtiogdomjmjiahaaW.PrintWords
theorem CommandChecks_walk (w : World) (x : CmdT) (cs : Array Value) (hK : CmdK w x cs.toList) (hw : CmdWf x) (size : Int) (_ : (Lit.int .i64 size).wf = true) (s : Int) (_ : (Lit.int .i64 s).wf = true) :
    Calls Try.prog 7 #[.agg cs, .int .i64 size, .int .i64 s] w fun e w' => e = .returned (.bool true) ∧ Below w.heap.size w w' := by
  obtain ⟨a0, a1, a2, a3, P, D⟩ := x
  obtain ⟨A, ca, B, cb, hcs, hA, hca, hB, hcb⟩ := hK
  obtain rfl : cs = ccs a0 a1 a2 a3 A P.length ca B D.length cb := Array.toList_inj.1 hcs
  exact checks_any a0 a1 a2 a3 A ca P B cb D size s w hA hca hB hcb
end Go.Proofs.Ytiogdomjmjiahaa.Own
