/- nepenthelaw28.of, walked; commands as rows of cells. -/
import Derived.Test.YtiogdomjmjiahaaCmW
namespace Go.Proofs.Ytiogdomjmjiahaa.Own
open Go.RowKit Go.Proofs.Ytiogdomjmjiahaa.Arr Go.Proofs.Ytiogdomjmjiahaa.QA Go.Proofs.YtiogdomjmjiahaaW.PrintWords Go.Proofs.YtiogdomjmjiahaaW.PrintLast Go.Proofs.YtiogdomjmjiahaaW.PrintMore
set_option linter.unusedVariables false
set_option linter.unusedSimpArgs false
abbrev ccs (a0 a1 a2 a3 : Int) (A : Option Addr) (n c : Nat) (B : Option Addr) (m d : Nat) : Array Value := #[.int .i64 a0, .int .i64 a1, .int .i64 a2, .int .i64 a3, .slice A n c, .slice B m d]
theorem infoW : (Try.prog.info? 34).map (fun i => (i.zero, i.size)) = some (some (.agg (ccs 0 0 0 0 none 0 0 none 0 0)), 6) := by kernel_rfl
theorem sizeW : (Try.prog.info? 34).map (·.size) = some 6 := by kernel_rfl
theorem sizeC : (Try.prog.info? 27).map (·.size) = some 6 := by kernel_rfl
theorem builtW (a0 a1 a2 a3 : Int) (A : Option Addr) (n c : Nat) (B : Option Addr) (m d : Nat) : Try.prog.built 34 (#[(0, .int .i64 a0), (1, .int .i64 a1), (2, .int .i64 a2), (3, .int .i64 a3), (4, .slice A n c), (5, .slice B m d)] : Array (Nat × Value)).toList = some (ccs a0 a1 a2 a3 A n c B m d) := by kernel_rfl
set_option maxHeartbeats 2000000 in
set_option maxRecDepth 100000 in
theorem of_any (a0 a1 a2 a3 : Int) (A : Option Addr) (n c : Nat) (B : Option Addr) (m d : Nat) (w : World) :
    Calls Try.prog 19 #[.agg (ccs a0 a1 a2 a3 A n c B m d)] w fun e w' => e = .returned (.agg (ccs a0 a1 a2 a3 A n c B m d)) ∧ Below w.heap.size w w' := by
  obtain ⟨hz, -⟩ := zero_of_info (P := Try.prog) infoW
  have hu := Try.underlying27
  have hb : ∀ W : World, (Instr.build 34 #[(0, .int .i64 a0), (1, .int .i64 a1), (2, .int .i64 a2), (3, .int .i64 a3), (4, .slice A n c), (5, .slice B m d)]).run Try.prog W = .ok (.agg (ccs a0 a1 a2 a3 A n c B m d)) W := fun W => run_build W _ _ _ (builtW a0 a1 a2 a3 A n c B m d)
  have hh : ((w.alloc (.cells (ccs a0 a1 a2 a3 A n c B m d) 27 (0, 0))).alloc (.cells (ccs a0 a1 a2 a3 A n c B m d) 34 (0, 0))).heap[w.heap.size + 1]? = some (.cells (ccs a0 a1 a2 a3 A n c B m d) 34 (0, 0)) := heap_at _ _ _ (by simp only [World.size_alloc])
  go_enter Try.func19, Try.ntmps19
  go_wp2_with fail
  refine bodyPost_ret (v := .agg (ccs a0 a1 a2 a3 A n c B m d)) (results_cell_row (p := 2) (ty := 34) rfl _ _ (w.heap.size + 1) 34 _ (0, 0) _ (by rfl) hh Try.underlying34 rfl sizeW) rfl ⟨rfl, ?_⟩
  exact ((Below.refl _ _).alloc (Nat.le_refl _) _).alloc (by simp only [World.size_alloc]; omega) _
end Go.Proofs.Ytiogdomjmjiahaa.Own
