/- LwCon, pruned (slim.py). -/
import Derived.Test.YtiogdomjmjiahaaZC31
import Derived.Test.YtiogdomjmjiahaaZC35
import Derived.Test.YtiogdomjmjiahaaZC37
namespace Go.Proofs.Ytiogdomjmjiahaa.Own
open Go.RowKit Go.Proofs.Ytiogdomjmjiahaa.Arr Go.Proofs.Ytiogdomjmjiahaa.QA Go.Proofs.Ytiogdomjmjiahaa.QB Go.Proofs.Ytiogdomjmjiahaa.QC Go.Proofs.YtiogdomjmjiahaaW.PrintWords Go.Proofs.YtiogdomjmjiahaaW.PrintLast Go.Proofs.YtiogdomjmjiahaaW.PrintMore
set_option linter.unusedVariables false
set_option linter.unusedSimpArgs false
set_option maxHeartbeats 2000000 in
set_option maxRecDepth 100000 in
theorem of35_any (a0 a1 a2 a3 : Int) (A : Option Addr) (n c : Nat) (B : Option Addr) (m d : Nat) (w : World) :
    Calls Try.prog 49 #[.agg (ccs a0 a1 a2 a3 A n c B m d)] w fun e w' => e = .returned (.agg (ccs a0 a1 a2 a3 A n c B m d)) ∧ Below w.heap.size w w' := by
  obtain ⟨hz, -⟩ := zero_of_info (P := Try.prog) infoW
  have hu := Try.underlying27
  have hb : ∀ W : World, (Instr.build 34 #[(0, .int .i64 a0), (1, .int .i64 a1), (2, .int .i64 a2), (3, .int .i64 a3), (4, .slice A n c), (5, .slice B m d)]).run Try.prog W = .ok (.agg (ccs a0 a1 a2 a3 A n c B m d)) W := fun W => run_build W _ _ _ (builtW a0 a1 a2 a3 A n c B m d)
  have hh : ((w.alloc (.cells (ccs a0 a1 a2 a3 A n c B m d) 27 (0, 0))).alloc (.cells (ccs a0 a1 a2 a3 A n c B m d) 34 (0, 0))).heap[w.heap.size + 1]? = some (.cells (ccs a0 a1 a2 a3 A n c B m d) 34 (0, 0)) := heap_at _ _ _ (by simp only [World.size_alloc])
  go_enter Try.func49, Try.ntmps49
  go_wp2_with fail
  refine bodyPost_ret (v := .agg (ccs a0 a1 a2 a3 A n c B m d)) (results_cell_row (p := 2) (ty := 34) rfl _ _ (w.heap.size + 1) 34 _ (0, 0) _ (by rfl) hh Try.underlying34 rfl sizeW) rfl ⟨rfl, ?_⟩
  exact ((Below.refl _ _).alloc (Nat.le_refl _) _).alloc (by simp only [World.size_alloc]; omega) _
set_option maxHeartbeats 4000000 in
set_option maxRecDepth 100000 in
theorem ccom_law (a0 a1 a2 a3 : Int) (A : Option Addr) (ca : Nat) (P : List Int) (B : Option Addr) (cb : Nat) (D : List Int) (w : World)
    (hA : Kd.C (Kd.int .u8) w A P.length P) (hca : P.length ≤ ca) (hB : Kd.C (Kd.int .u8) w B D.length D) (hcb : D.length ≤ cb) (hPb : ∀ x ∈ P, byt x) (hDb : ∀ x ∈ D, byt x) :
    Calls Try.prog 10 #[.agg (ccs a0 a1 a2 a3 A P.length ca B D.length cb)] w fun e w' => e = .returned (.bool true) ∧ Below w.heap.size w w' := by
  have hawake := Lib.hid (fun w1 => awake35 w1)
  obtain ⟨CS, hCS⟩ : ∃ CS, CS = ccs a0 a1 a2 a3 A P.length ca B D.length cb := ⟨_, rfl⟩
  have hCs := Lib.hid (show (Try.prog.info? 27).map (·.size) = some CS.size by rw [hCS]; exact sizeC)
  have hof := Lib.hid (fun w1 => of35_any a0 a1 a2 a3 A P.length ca B D.length cb w1)
  rw [← hCS] at hof ⊢
  obtain ⟨W1, hW1⟩ : ∃ W1, W1 = w.alloc (.cells CS 27 (0, 0)) := ⟨_, rfl⟩
  have b0 := Lib.hid (show Below w.heap.size w W1 by rw [hW1]; exact (Below.refl _ _).alloc (Nat.le_refl _) _)
  have g0 := Lib.hid (show W1.heap[w.heap.size]? = some (.cells CS 27 (0, 0)) by rw [hW1]; exact heap_alloc_last _ _)
  have c4 : (w.alloc (.cells CS 27 (0, 0))).cell? ⟨w.heap.size, 4, none⟩ = some (.slice A P.length ca) := (blk_cell (heap_alloc_last _ _) 4).trans (by rw [hCS]; rfl)
  have c5 : (w.alloc (.cells CS 27 (0, 0))).cell? ⟨w.heap.size, 5, none⟩ = some (.slice B D.length cb) := (blk_cell (heap_alloc_last _ _) 5).trans (by rw [hCS]; rfl)
  by_cases hl : P.length ≤ 3000 ∧ D.length ≤ 3000
  · have hw := fun (w1 : World) (h : Below w.heap.size w w1) => cword_any w1 a0 a1 a2 a3 A ca P B cb D (Kd.C_below hA h) hca hPb (by omega) (Kd.C_below hB h) hcb hDb (by omega)
    have hr : ∀ w1 : World, Below w.heap.size w w1 → Calls Try.prog 48 #[.agg (ccs a0 a1 a2 a3 A P.length ca B D.length cb)] w1 fun e w' => e = .returned (.tuple #[.string (refRes (wCmd a0 a1 a2 a3 P D ([], false))).1, .bool (refRes (wCmd a0 a1 a2 a3 P D ([], false))).2]) ∧ Below w1.heap.size w1 w' := fun (w1 : World) (h : Below w.heap.size w w1) => nepentheref35_Word.calls 60 a0 a1 a2 a3 A ca P B cb D (refRes (wCmd a0 a1 a2 a3 P D ([], false))).1 (refRes (wCmd a0 a1 a2 a3 P D ([], false))).2 w1 (Kd.C_below hA h) hca (Kd.C_below hB h) hcb (refWord_eq a0 a1 a2 a3 P D hPb (by omega) hDb (by omega))
    have hw' := Lib.hid hw
    have hr' := Lib.hid hr
    rw [← hCS] at hw' hr'
    obtain ⟨R, hR⟩ : ∃ R, R = wCmd a0 a1 a2 a3 P D ([], false) := ⟨_, rfl⟩
    rw [← hR] at hw' hr'
    have k1 : ¬ (3000 : Int) < (D.length : Int) := by omega
    have k2 : ¬ (3000 : Int) < (P.length : Int) := by omega
    clear hw hr hR hA hB hca hcb hPb hDb hl hCS
    obtain ⟨L, bd⟩ := R
    obtain ⟨S, hS⟩ : ∃ S, S = strOfNums L := ⟨_, rfl⟩
    cases bd
    · have e1 : wordRes (L, false) = (S, 0) := by rw [hS]; rfl
      have e2 : refRes (L, false) = (S, true) := by rw [hS]; rfl
      rw [e1] at hw'
      rw [e2] at hr'
      clear e1 e2 hS
      go_enter Try.func10, Try.ntmps10
      go_wp2_with (first
        | (with_reducible refine wpList_load_row rfl 27 _ rfl w.heap.size rfl 27 CS (0, 0) _ (heap_alloc_last _ _) Try.underlying27 rfl hCs.out ?_)
        | (with_reducible refine wpList_load_row rfl 27 _ rfl w.heap.size rfl 27 CS (0, 0) _ g1.out Try.underlying27 rfl hCs.out ?_)
        | ((with_reducible go_at_call 47); rw [← hW1]; refine (hw'.out _ b0.out).mono ?_; rintro e w1 ⟨rfl, hb⟩; have b1 := Lib.hid (below_step b0.out hb); have g1 := Lib.hid (heap_below g0.out hb); clear hb)
        | ((with_reducible go_at_call 49); refine (hof.out _).mono ?_; rintro e w2 ⟨rfl, hb⟩; have b2 := Lib.hid (below_step b1.out hb); clear hb)
        | ((with_reducible go_at_call 48); refine (hr'.out _ b2.out).mono ?_; rintro e w3 ⟨rfl, hb⟩; have b3 := Lib.hid (below_step b2.out hb); clear hb)
        | ((with_reducible go_at_call 38); refine (hawake.out _).mono ?_; rintro e w4 ⟨rfl, hb⟩; have b4 := Lib.hid (below_step b3.out hb); clear hb))
      go_ret
      exact ⟨rfl, b4.out⟩
    · have e1 : wordRes (L, true) = (⟨#[]⟩, 1) := rfl
      have e2 : refRes (L, true) = (⟨#[]⟩, false) := rfl
      rw [e1] at hw'
      rw [e2] at hr'
      clear e1 e2 hS
      go_enter Try.func10, Try.ntmps10
      go_wp2_with (first
        | (with_reducible refine wpList_load_row rfl 27 _ rfl w.heap.size rfl 27 CS (0, 0) _ (heap_alloc_last _ _) Try.underlying27 rfl hCs.out ?_)
        | (with_reducible refine wpList_load_row rfl 27 _ rfl w.heap.size rfl 27 CS (0, 0) _ g1.out Try.underlying27 rfl hCs.out ?_)
        | ((with_reducible go_at_call 47); rw [← hW1]; refine (hw'.out _ b0.out).mono ?_; rintro e w1 ⟨rfl, hb⟩; have b1 := Lib.hid (below_step b0.out hb); have g1 := Lib.hid (heap_below g0.out hb); clear hb)
        | ((with_reducible go_at_call 49); refine (hof.out _).mono ?_; rintro e w2 ⟨rfl, hb⟩; have b2 := Lib.hid (below_step b1.out hb); clear hb)
        | ((with_reducible go_at_call 48); refine (hr'.out _ b2.out).mono ?_; rintro e w3 ⟨rfl, hb⟩; have b3 := Lib.hid (below_step b2.out hb); clear hb)
        | ((with_reducible go_at_call 38); refine (hawake.out _).mono ?_; rintro e w4 ⟨rfl, hb⟩; have b4 := Lib.hid (below_step b3.out hb); clear hb))
      go_ret
      exact ⟨rfl, b4.out⟩
  · have hor : (3000 : Int) < (D.length : Int) ∨ (¬ (3000 : Int) < (D.length : Int) ∧ (3000 : Int) < (P.length : Int)) := by omega
    clear hl hA hB hca hcb hPb hDb hCS hof
    rcases hor with k1 | ⟨k1, k2⟩
    all_goals
      go_enter Try.func10, Try.ntmps10
      go_wp2_with (
        ((with_reducible go_at_call 38); rw [← hW1]; refine (hawake.out _).mono ?_; rintro e w4 ⟨rfl, hb⟩; have b4 := Lib.hid (below_step b0.out hb); clear hb))
      go_ret
      exact ⟨rfl, b4.out⟩
theorem byt_wfC {l : List Int} (h : ∀ x ∈ l, (Lit.int .u8 x).wf = true) : ∀ x ∈ l, byt x := fun x hx => by
  have := h x hx
  simp [Lit.wf, IntKind.min, IntKind.max, IntKind.signed, IntKind.bits] at this
  exact ⟨by omega, by omega⟩
theorem ConsoleCommands_walk (w : World) (x : Opz.CmdT) (cs : Array Value) (hK : Opz.CmdK w x cs.toList) (hw : Opz.CmdWf x) :
    Calls Try.prog 10 #[.agg cs] w fun e w' => e = .returned (.bool true) ∧ Below w.heap.size w w' := by
  obtain ⟨a0, a1, a2, a3, P, D⟩ := x
  obtain ⟨A, ca, B, cb, hcs, hA, hca, hB, hcb⟩ := hK
  obtain rfl : cs = ccs a0 a1 a2 a3 A P.length ca B D.length cb := Array.toList_inj.1 hcs
  exact ccom_law a0 a1 a2 a3 A ca P B cb D w hA hca hB hcb (byt_wfC hw.2.1.2) (byt_wfC hw.2.2.2)
end Go.Proofs.Ytiogdomjmjiahaa.Own
