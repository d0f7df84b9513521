/- The form of commands, plain: the program's answers are the document's. -/
import Derived.Test.YtiogdomjmjiahaaQAx5
import Derived.Test.YtiogdomjmjiahaaQAx6
import Derived.Test.YtiogdomjmjiahaaQAx7
import Derived.Test.YtiogdomjmjiahaaQAx8
import Derived.Test.YtiogdomjmjiahaaQAx9
namespace Go.Proofs.Ytiogdomjmjiahaa.Own
open Go.RowKit Go.Proofs.Ytiogdomjmjiahaa.QA Go.Proofs.YtiogdomjmjiahaaW.PrintWords Go.Proofs.YtiogdomjmjiahaaW.PrintLast
set_option linter.unusedVariables false
set_option linter.unusedSimpArgs false
theorem check_1 (ns lba cnt s : Int) (P D : List Int) : ∃ F, nepentheref28_Formed.f 9 1 ns lba cnt P D s = some F ∧ command_Check.f 9 1 ns lba cnt P D s = some (if F = true then 0 else 1) := by
  (rcases (show (P.length : Int) ≤ 64 ∨ ¬ (P.length : Int) ≤ 64 by omega) with p1 | p1) <;> (rcases (show (D.length : Int) = 16 ∨ ¬ (D.length : Int) = 16 by omega) with d1 | d1)
  all_goals
    first
    | (refine ⟨true, ?_⟩; simp [nepentheref28_Formed.f, nepentheref28_Formed.j0, nepentheref28_Formed.j1, nepentheref28_Formed.j2, nepentheref28_asks.f, command_Check.f, command_named.f, command_formed.f, command_formed.j0, command_formed.j1, p1, d1]; done)
    | (refine ⟨false, ?_⟩; simp [nepentheref28_Formed.f, nepentheref28_Formed.j0, nepentheref28_Formed.j1, nepentheref28_Formed.j2, nepentheref28_asks.f, command_Check.f, command_named.f, command_formed.f, command_formed.j0, command_formed.j1, p1, d1]; done)
theorem check_2 (ns lba cnt s : Int) (P D : List Int) : ∃ F, nepentheref28_Formed.f 9 2 ns lba cnt P D s = some F ∧ command_Check.f 9 2 ns lba cnt P D s = some (if F = true then 0 else 1) := by
  (rcases (show (P.length : Int) ≤ 64 ∨ ¬ (P.length : Int) ≤ 64 by omega) with p1 | p1)
  all_goals
    first
    | (refine ⟨true, ?_⟩; simp [nepentheref28_Formed.f, nepentheref28_Formed.j0, nepentheref28_Formed.j1, nepentheref28_Formed.j2, nepentheref28_asks.f, command_Check.f, command_named.f, command_formed.f, command_formed.j0, command_formed.j1, p1]; done)
    | (refine ⟨false, ?_⟩; simp [nepentheref28_Formed.f, nepentheref28_Formed.j0, nepentheref28_Formed.j1, nepentheref28_Formed.j2, nepentheref28_asks.f, command_Check.f, command_named.f, command_formed.f, command_formed.j0, command_formed.j1, p1]; done)
theorem check_3 (ns lba cnt s : Int) (P D : List Int) : ∃ F, nepentheref28_Formed.f 9 3 ns lba cnt P D s = some F ∧ command_Check.f 9 3 ns lba cnt P D s = some (if F = true then 0 else 1) := by
  first
  | (refine ⟨true, ?_⟩; simp [nepentheref28_Formed.f, nepentheref28_Formed.j0, nepentheref28_Formed.j1, nepentheref28_Formed.j2, nepentheref28_asks.f, command_Check.f, command_named.f, command_formed.f, command_formed.j0, command_formed.j1]; done)
  | (refine ⟨false, ?_⟩; simp [nepentheref28_Formed.f, nepentheref28_Formed.j0, nepentheref28_Formed.j1, nepentheref28_Formed.j2, nepentheref28_asks.f, command_Check.f, command_named.f, command_formed.f, command_formed.j0, command_formed.j1]; done)
theorem check_4 (ns lba cnt s : Int) (P D : List Int) : ∃ F, nepentheref28_Formed.f 9 4 ns lba cnt P D s = some F ∧ command_Check.f 9 4 ns lba cnt P D s = some (if F = true then 0 else 1) := by
  (rcases (show 0 ≤ ns ∧ ns < 4 ∧ ns ≤ 3 ∧ ¬ ns < 0 ∧ ¬ 3 < ns ∨ ¬ 0 ≤ ns ∧ ns < 0 ∧ ¬ 3 < ns ∧ ns < 4 ∧ ns ≤ 3 ∨ ¬ ns < 4 ∧ 0 ≤ ns ∧ ¬ ns ≤ 3 ∧ ¬ ns < 0 ∧ 3 < ns by omega) with ⟨n1, n2, n3, n4, n5⟩ | ⟨n1, n2, n3, n4, n5⟩ | ⟨n1, n2, n3, n4, n5⟩) <;> (rcases (show (D.length : Int) = 96 ∨ ¬ (D.length : Int) = 96 by omega) with d1 | d1)
  all_goals
    first
    | (refine ⟨true, ?_⟩; simp [nepentheref28_Formed.f, nepentheref28_Formed.j0, nepentheref28_Formed.j1, nepentheref28_Formed.j2, nepentheref28_asks.f, command_Check.f, command_named.f, command_formed.f, command_formed.j0, command_formed.j1, n1, n2, n3, n4, n5, d1]; done)
    | (refine ⟨false, ?_⟩; simp [nepentheref28_Formed.f, nepentheref28_Formed.j0, nepentheref28_Formed.j1, nepentheref28_Formed.j2, nepentheref28_asks.f, command_Check.f, command_named.f, command_formed.f, command_formed.j0, command_formed.j1, n1, n2, n3, n4, n5, d1]; done)
theorem check_5 (ns lba cnt s : Int) (P D : List Int) : ∃ F, nepentheref28_Formed.f 9 5 ns lba cnt P D s = some F ∧ command_Check.f 9 5 ns lba cnt P D s = some (if F = true then 0 else 1) := by
  (rcases (show 0 ≤ ns ∧ ns < 4 ∧ ns ≤ 3 ∧ ¬ ns < 0 ∧ ¬ 3 < ns ∨ ¬ 0 ≤ ns ∧ ns < 0 ∧ ¬ 3 < ns ∧ ns < 4 ∧ ns ≤ 3 ∨ ¬ ns < 4 ∧ 0 ≤ ns ∧ ¬ ns ≤ 3 ∧ ¬ ns < 0 ∧ 3 < ns by omega) with ⟨n1, n2, n3, n4, n5⟩ | ⟨n1, n2, n3, n4, n5⟩ | ⟨n1, n2, n3, n4, n5⟩)
  all_goals
    first
    | (refine ⟨true, ?_⟩; simp [nepentheref28_Formed.f, nepentheref28_Formed.j0, nepentheref28_Formed.j1, nepentheref28_Formed.j2, nepentheref28_asks.f, command_Check.f, command_named.f, command_formed.f, command_formed.j0, command_formed.j1, n1, n2, n3, n4, n5]; done)
    | (refine ⟨false, ?_⟩; simp [nepentheref28_Formed.f, nepentheref28_Formed.j0, nepentheref28_Formed.j1, nepentheref28_Formed.j2, nepentheref28_asks.f, command_Check.f, command_named.f, command_formed.f, command_formed.j0, command_formed.j1, n1, n2, n3, n4, n5]; done)
theorem check_6 (ns lba cnt s : Int) (P D : List Int) : ∃ F, nepentheref28_Formed.f 9 6 ns lba cnt P D s = some F ∧ command_Check.f 9 6 ns lba cnt P D s = some (if F = true then 0 else 1) := by
  (rcases (show 0 ≤ ns ∧ ns < 4 ∧ ns ≤ 3 ∧ ¬ ns < 0 ∧ ¬ 3 < ns ∨ ¬ 0 ≤ ns ∧ ns < 0 ∧ ¬ 3 < ns ∧ ns < 4 ∧ ns ≤ 3 ∨ ¬ ns < 4 ∧ 0 ≤ ns ∧ ¬ ns ≤ 3 ∧ ¬ ns < 0 ∧ 3 < ns by omega) with ⟨n1, n2, n3, n4, n5⟩ | ⟨n1, n2, n3, n4, n5⟩ | ⟨n1, n2, n3, n4, n5⟩) <;> (rcases (show (1 ≤ cnt ∧ cnt ≤ 32 ∧ cnt ≥ 1) ∨ (¬ 1 ≤ cnt ∧ cnt ≤ 32 ∧ ¬ cnt ≥ 1) ∨ (1 ≤ cnt ∧ ¬ cnt ≤ 32 ∧ cnt ≥ 1) by omega) with ⟨c1, c2, c3⟩ | ⟨c1, c2, c3⟩ | ⟨c1, c2, c3⟩)
  all_goals
    first
    | (refine ⟨true, ?_⟩; simp [nepentheref28_Formed.f, nepentheref28_Formed.j0, nepentheref28_Formed.j1, nepentheref28_Formed.j2, nepentheref28_asks.f, command_Check.f, command_named.f, command_formed.f, command_formed.j0, command_formed.j1, n1, n2, n3, n4, n5, c1, c2, c3]; done)
    | (refine ⟨false, ?_⟩; simp [nepentheref28_Formed.f, nepentheref28_Formed.j0, nepentheref28_Formed.j1, nepentheref28_Formed.j2, nepentheref28_asks.f, command_Check.f, command_named.f, command_formed.f, command_formed.j0, command_formed.j1, n1, n2, n3, n4, n5, c1, c2, c3]; done)
theorem check_7 (ns lba cnt s : Int) (P D : List Int) : ∃ F, nepentheref28_Formed.f 9 7 ns lba cnt P D s = some F ∧ command_Check.f 9 7 ns lba cnt P D s = some (if F = true then 0 else 1) := by
  (rcases (show 0 ≤ ns ∧ ns < 4 ∧ ns ≤ 3 ∧ ¬ ns < 0 ∧ ¬ 3 < ns ∨ ¬ 0 ≤ ns ∧ ns < 0 ∧ ¬ 3 < ns ∧ ns < 4 ∧ ns ≤ 3 ∨ ¬ ns < 4 ∧ 0 ≤ ns ∧ ¬ ns ≤ 3 ∧ ¬ ns < 0 ∧ 3 < ns by omega) with ⟨n1, n2, n3, n4, n5⟩ | ⟨n1, n2, n3, n4, n5⟩ | ⟨n1, n2, n3, n4, n5⟩) <;> (rcases (show (0 < s ∧ 1 ≤ s ∧ ¬ s = 0) ∨ (¬ 0 < s ∧ ¬ 1 ≤ s) by omega) with ⟨s1, s2, s3⟩ | ⟨s1, s2⟩) <;> (rcases (show (0 < D.length) ∨ ¬ 0 < D.length by omega) with e1 | e1) <;> (rcases (Decidable.em ((D.length : Int) % s = 0)) with m1 | m1) <;> (rcases (Decidable.em (wrap64 ((D.length : Int) / s) ≤ 32)) with w1 | w1)
  all_goals
    first
    | (refine ⟨true, ?_⟩; simp [nepentheref28_Formed.f, nepentheref28_Formed.j0, nepentheref28_Formed.j1, nepentheref28_Formed.j2, nepentheref28_asks.f, command_Check.f, command_named.f, command_formed.f, command_formed.j0, command_formed.j1, n1, n2, n3, n4, n5, s1, s2, s3, e1, m1, w1]; done)
    | (refine ⟨false, ?_⟩; simp [nepentheref28_Formed.f, nepentheref28_Formed.j0, nepentheref28_Formed.j1, nepentheref28_Formed.j2, nepentheref28_asks.f, command_Check.f, command_named.f, command_formed.f, command_formed.j0, command_formed.j1, n1, n2, n3, n4, n5, s1, s2, s3, e1, m1, w1]; done)
    | (refine ⟨false, ?_⟩; simp [nepentheref28_Formed.f, nepentheref28_Formed.j0, nepentheref28_Formed.j1, nepentheref28_Formed.j2, nepentheref28_asks.f, command_Check.f, command_named.f, command_formed.f, command_formed.j0, command_formed.j1, n1, n2, n3, n4, n5, s1, s2, e1, m1, w1]; done)
theorem check_8 (ns lba cnt s : Int) (P D : List Int) : ∃ F, nepentheref28_Formed.f 9 8 ns lba cnt P D s = some F ∧ command_Check.f 9 8 ns lba cnt P D s = some (if F = true then 0 else 1) := by
  (rcases (show 0 ≤ ns ∧ ns < 4 ∧ ns ≤ 3 ∧ ¬ ns < 0 ∧ ¬ 3 < ns ∨ ¬ 0 ≤ ns ∧ ns < 0 ∧ ¬ 3 < ns ∧ ns < 4 ∧ ns ≤ 3 ∨ ¬ ns < 4 ∧ 0 ≤ ns ∧ ¬ ns ≤ 3 ∧ ¬ ns < 0 ∧ 3 < ns by omega) with ⟨n1, n2, n3, n4, n5⟩ | ⟨n1, n2, n3, n4, n5⟩ | ⟨n1, n2, n3, n4, n5⟩) <;> (rcases (show (1 ≤ cnt ∧ cnt ≤ 32 ∧ cnt ≥ 1) ∨ (¬ 1 ≤ cnt ∧ cnt ≤ 32 ∧ ¬ cnt ≥ 1) ∨ (1 ≤ cnt ∧ ¬ cnt ≤ 32 ∧ cnt ≥ 1) by omega) with ⟨c1, c2, c3⟩ | ⟨c1, c2, c3⟩ | ⟨c1, c2, c3⟩)
  all_goals
    first
    | (refine ⟨true, ?_⟩; simp [nepentheref28_Formed.f, nepentheref28_Formed.j0, nepentheref28_Formed.j1, nepentheref28_Formed.j2, nepentheref28_asks.f, command_Check.f, command_named.f, command_formed.f, command_formed.j0, command_formed.j1, n1, n2, n3, n4, n5, c1, c2, c3]; done)
    | (refine ⟨false, ?_⟩; simp [nepentheref28_Formed.f, nepentheref28_Formed.j0, nepentheref28_Formed.j1, nepentheref28_Formed.j2, nepentheref28_asks.f, command_Check.f, command_named.f, command_formed.f, command_formed.j0, command_formed.j1, n1, n2, n3, n4, n5, c1, c2, c3]; done)
theorem check_9 (ns lba cnt s : Int) (P D : List Int) : ∃ F, nepentheref28_Formed.f 9 9 ns lba cnt P D s = some F ∧ command_Check.f 9 9 ns lba cnt P D s = some (if F = true then 0 else 1) := by
  first
  | (refine ⟨true, ?_⟩; simp [nepentheref28_Formed.f, nepentheref28_Formed.j0, nepentheref28_Formed.j1, nepentheref28_Formed.j2, nepentheref28_asks.f, command_Check.f, command_named.f, command_formed.f, command_formed.j0, command_formed.j1]; done)
  | (refine ⟨false, ?_⟩; simp [nepentheref28_Formed.f, nepentheref28_Formed.j0, nepentheref28_Formed.j1, nepentheref28_Formed.j2, nepentheref28_asks.f, command_Check.f, command_named.f, command_formed.f, command_formed.j0, command_formed.j1]; done)
theorem check_10 (ns lba cnt s : Int) (P D : List Int) : ∃ F, nepentheref28_Formed.f 9 10 ns lba cnt P D s = some F ∧ command_Check.f 9 10 ns lba cnt P D s = some (if F = true then 0 else 1) := by
  first
  | (refine ⟨true, ?_⟩; simp [nepentheref28_Formed.f, nepentheref28_Formed.j0, nepentheref28_Formed.j1, nepentheref28_Formed.j2, nepentheref28_asks.f, command_Check.f, command_named.f, command_formed.f, command_formed.j0, command_formed.j1]; done)
  | (refine ⟨false, ?_⟩; simp [nepentheref28_Formed.f, nepentheref28_Formed.j0, nepentheref28_Formed.j1, nepentheref28_Formed.j2, nepentheref28_asks.f, command_Check.f, command_named.f, command_formed.f, command_formed.j0, command_formed.j1]; done)
theorem check_11 (ns lba cnt s : Int) (P D : List Int) : ∃ F, nepentheref28_Formed.f 9 11 ns lba cnt P D s = some F ∧ command_Check.f 9 11 ns lba cnt P D s = some (if F = true then 0 else 1) := by
  (rcases (show 0 ≤ ns ∧ ns < 4 ∧ ns ≤ 3 ∧ ¬ ns < 0 ∧ ¬ 3 < ns ∨ ¬ 0 ≤ ns ∧ ns < 0 ∧ ¬ 3 < ns ∧ ns < 4 ∧ ns ≤ 3 ∨ ¬ ns < 4 ∧ 0 ≤ ns ∧ ¬ ns ≤ 3 ∧ ¬ ns < 0 ∧ 3 < ns by omega) with ⟨n1, n2, n3, n4, n5⟩ | ⟨n1, n2, n3, n4, n5⟩ | ⟨n1, n2, n3, n4, n5⟩)
  all_goals
    first
    | (refine ⟨true, ?_⟩; simp [nepentheref28_Formed.f, nepentheref28_Formed.j0, nepentheref28_Formed.j1, nepentheref28_Formed.j2, nepentheref28_asks.f, command_Check.f, command_named.f, command_formed.f, command_formed.j0, command_formed.j1, n1, n2, n3, n4, n5]; done)
    | (refine ⟨false, ?_⟩; simp [nepentheref28_Formed.f, nepentheref28_Formed.j0, nepentheref28_Formed.j1, nepentheref28_Formed.j2, nepentheref28_asks.f, command_Check.f, command_named.f, command_formed.f, command_formed.j0, command_formed.j1, n1, n2, n3, n4, n5]; done)
theorem check_12 (ns lba cnt s : Int) (P D : List Int) : ∃ F, nepentheref28_Formed.f 9 12 ns lba cnt P D s = some F ∧ command_Check.f 9 12 ns lba cnt P D s = some (if F = true then 0 else 1) := by
  (rcases (show 0 ≤ ns ∧ ns < 4 ∧ ns ≤ 3 ∧ ¬ ns < 0 ∧ ¬ 3 < ns ∨ ¬ 0 ≤ ns ∧ ns < 0 ∧ ¬ 3 < ns ∧ ns < 4 ∧ ns ≤ 3 ∨ ¬ ns < 4 ∧ 0 ≤ ns ∧ ¬ ns ≤ 3 ∧ ¬ ns < 0 ∧ 3 < ns by omega) with ⟨n1, n2, n3, n4, n5⟩ | ⟨n1, n2, n3, n4, n5⟩ | ⟨n1, n2, n3, n4, n5⟩)
  all_goals
    first
    | (refine ⟨true, ?_⟩; simp [nepentheref28_Formed.f, nepentheref28_Formed.j0, nepentheref28_Formed.j1, nepentheref28_Formed.j2, nepentheref28_asks.f, command_Check.f, command_named.f, command_formed.f, command_formed.j0, command_formed.j1, n1, n2, n3, n4, n5]; done)
    | (refine ⟨false, ?_⟩; simp [nepentheref28_Formed.f, nepentheref28_Formed.j0, nepentheref28_Formed.j1, nepentheref28_Formed.j2, nepentheref28_asks.f, command_Check.f, command_named.f, command_formed.f, command_formed.j0, command_formed.j1, n1, n2, n3, n4, n5]; done)
theorem check_13 (ns lba cnt s : Int) (P D : List Int) : ∃ F, nepentheref28_Formed.f 9 13 ns lba cnt P D s = some F ∧ command_Check.f 9 13 ns lba cnt P D s = some (if F = true then 0 else 1) := by
  first
  | (refine ⟨true, ?_⟩; simp [nepentheref28_Formed.f, nepentheref28_Formed.j0, nepentheref28_Formed.j1, nepentheref28_Formed.j2, nepentheref28_asks.f, command_Check.f, command_named.f, command_formed.f, command_formed.j0, command_formed.j1]; done)
  | (refine ⟨false, ?_⟩; simp [nepentheref28_Formed.f, nepentheref28_Formed.j0, nepentheref28_Formed.j1, nepentheref28_Formed.j2, nepentheref28_asks.f, command_Check.f, command_named.f, command_formed.f, command_formed.j0, command_formed.j1]; done)
theorem check_14 (ns lba cnt s : Int) (P D : List Int) : ∃ F, nepentheref28_Formed.f 9 14 ns lba cnt P D s = some F ∧ command_Check.f 9 14 ns lba cnt P D s = some (if F = true then 0 else 1) := by
  (rcases (show (P.length : Int) ≤ 64 ∨ ¬ (P.length : Int) ≤ 64 by omega) with p1 | p1) <;> (rcases (show (D.length : Int) = 16 ∨ ¬ (D.length : Int) = 16 by omega) with d1 | d1)
  all_goals
    first
    | (refine ⟨true, ?_⟩; simp [nepentheref28_Formed.f, nepentheref28_Formed.j0, nepentheref28_Formed.j1, nepentheref28_Formed.j2, nepentheref28_asks.f, command_Check.f, command_named.f, command_formed.f, command_formed.j0, command_formed.j1, p1, d1]; done)
    | (refine ⟨false, ?_⟩; simp [nepentheref28_Formed.f, nepentheref28_Formed.j0, nepentheref28_Formed.j1, nepentheref28_Formed.j2, nepentheref28_asks.f, command_Check.f, command_named.f, command_formed.f, command_formed.j0, command_formed.j1, p1, d1]; done)
theorem check_15 (ns lba cnt s : Int) (P D : List Int) : ∃ F, nepentheref28_Formed.f 9 15 ns lba cnt P D s = some F ∧ command_Check.f 9 15 ns lba cnt P D s = some (if F = true then 0 else 1) := by
  (rcases (show (1 ≤ cnt ∧ cnt ≤ 32 ∧ cnt ≥ 1) ∨ (¬ 1 ≤ cnt ∧ cnt ≤ 32 ∧ ¬ cnt ≥ 1) ∨ (1 ≤ cnt ∧ ¬ cnt ≤ 32 ∧ cnt ≥ 1) by omega) with ⟨c1, c2, c3⟩ | ⟨c1, c2, c3⟩ | ⟨c1, c2, c3⟩)
  all_goals
    first
    | (refine ⟨true, ?_⟩; simp [nepentheref28_Formed.f, nepentheref28_Formed.j0, nepentheref28_Formed.j1, nepentheref28_Formed.j2, nepentheref28_asks.f, command_Check.f, command_named.f, command_formed.f, command_formed.j0, command_formed.j1, c1, c2, c3]; done)
    | (refine ⟨false, ?_⟩; simp [nepentheref28_Formed.f, nepentheref28_Formed.j0, nepentheref28_Formed.j1, nepentheref28_Formed.j2, nepentheref28_asks.f, command_Check.f, command_named.f, command_formed.f, command_formed.j0, command_formed.j1, c1, c2, c3]; done)
theorem check_eq (k ns lba cnt s : Int) (P D : List Int) : ∃ F, nepentheref28_Formed.f 9 k ns lba cnt P D s = some F ∧ command_Check.f 9 k ns lba cnt P D s = some (if F = true then 0 else 1) := by
  by_cases hk : 1 ≤ k ∧ k ≤ 15
  · have : k = 1 ∨ k = 2 ∨ k = 3 ∨ k = 4 ∨ k = 5 ∨ k = 6 ∨ k = 7 ∨ k = 8 ∨ k = 9 ∨ k = 10 ∨ k = 11 ∨ k = 12 ∨ k = 13 ∨ k = 14 ∨ k = 15 := by omega
    rcases this with rfl | rfl | rfl | rfl | rfl | rfl | rfl | rfl | rfl | rfl | rfl | rfl | rfl | rfl | rfl
    · exact check_1 ns lba cnt s P D
    · exact check_2 ns lba cnt s P D
    · exact check_3 ns lba cnt s P D
    · exact check_4 ns lba cnt s P D
    · exact check_5 ns lba cnt s P D
    · exact check_6 ns lba cnt s P D
    · exact check_7 ns lba cnt s P D
    · exact check_8 ns lba cnt s P D
    · exact check_9 ns lba cnt s P D
    · exact check_10 ns lba cnt s P D
    · exact check_11 ns lba cnt s P D
    · exact check_12 ns lba cnt s P D
    · exact check_13 ns lba cnt s P D
    · exact check_14 ns lba cnt s P D
    · exact check_15 ns lba cnt s P D
  · have hne : ∀ j : Int, 1 ≤ j → j ≤ 15 → (k == j) = false := fun j h1 h2 => by simp; omega
    have hnq : ∀ j : Int, 1 ≤ j → j ≤ 15 → ¬ k = j := fun j h1 h2 => by omega
    rcases (show (k < 1 ∧ ¬ 1 ≤ k ∧ ¬ k ≥ 1) ∨ (¬ k < 1 ∧ k > 15 ∧ ¬ k ≤ 15 ∧ k ≥ 1) by omega) with ⟨a1, a2, a3⟩ | ⟨a1, a2, a3, a4⟩
    · (refine ⟨false, ?_⟩; simp [nepentheref28_Formed.f, nepentheref28_Formed.j0, nepentheref28_Formed.j1, nepentheref28_Formed.j2, nepentheref28_asks.f, command_Check.f, command_named.f, command_formed.f, command_formed.j0, command_formed.j1, hne, hnq, a1, a2, a3]; done)
    · (refine ⟨false, ?_⟩; simp [nepentheref28_Formed.f, nepentheref28_Formed.j0, nepentheref28_Formed.j1, nepentheref28_Formed.j2, nepentheref28_asks.f, command_Check.f, command_named.f, command_formed.f, command_formed.j0, command_formed.j1, hne, hnq, a1, a2, a3, a4]; done)
end Go.Proofs.Ytiogdomjmjiahaa.Own
