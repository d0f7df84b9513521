/- Columns of four bytes: field.Mix, field.Unmix and the document's Turned, walked. -/
import Derived.Test.YthmahaoadoeoaaaFmA
namespace Go.Proofs.Ythmahaoadoeoaaa.Own
open Go.RowKit Go.Proofs.Ythmahaoadoeoaaa.Arr Go.Proofs.Ythmahaoadoeoaaa.Core Go.Proofs.Ythmahaoadoeoaaa.Pure Go.Proofs.Ythmahaoadoeoaaa.PFieldProducts Go.Proofs.YthmahaoadoeoaaaW.PrintWords Go.Proofs.YthmahaoadoeoaaaW.PrintLast Go.Proofs.YthmahaoadoeoaaaW.PrintMore
set_option linter.unusedVariables false
set_option linter.unusedSimpArgs false
attribute [-go_sem] Instr.build
def mixM : Col := [2#8, 3#8, 1#8, 1#8]
def unM : Col := [14#8, 11#8, 13#8, 9#8]
theorem builtMix : Try.prog.built 47 (#[(0, .int .u8 2), (1, .int .u8 3), (2, .int .u8 1), (3, .int .u8 1)] : Array (Nat × Value)).toList = some (ints .u8 (cv mixM)) := by kernel_rfl
theorem builtUn : Try.prog.built 47 (#[(0, .int .u8 14), (1, .int .u8 11), (2, .int .u8 13), (3, .int .u8 9)] : Array (Nat × Value)).toList = some (ints .u8 (cv unM)) := by kernel_rfl
theorem built40 : Try.prog.built 47 (#[] : Array (Nat × Value)).toList = some (ints .u8 (zer 4)) := by kernel_rfl
theorem buildMix (W : World) : (Instr.build 47 #[(0, .int .u8 2), (1, .int .u8 3), (2, .int .u8 1), (3, .int .u8 1)]).run Try.prog W = .ok (.agg (ints .u8 (cv mixM))) W := run_build W _ _ _ builtMix
theorem buildUn (W : World) : (Instr.build 47 #[(0, .int .u8 14), (1, .int .u8 11), (2, .int .u8 13), (3, .int .u8 9)]).run Try.prog W = .ok (.agg (ints .u8 (cv unM))) W := run_build W _ _ _ builtUn
theorem build40 (W : World) : (Instr.build 47 #[]).run Try.prog W = .ok (.agg (ints .u8 (zer 4))) W := run_build W _ _ _ built40
set_option maxHeartbeats 2000000 in
set_option maxRecDepth 100000 in
theorem mix_any (col : Col) (hc : col.length = 4) (w : World) : Calls Try.prog 32 #[.agg (ints .u8 (cv col))] w fun e w' => e = .returned (.agg (ints .u8 (cv (turnB col mixM)))) ∧ Below w.heap.size w w' := by
  obtain ⟨hz, -⟩ := zero_of_info (P := Try.prog) info47
  have hbu := buildMix
  have hcl := Lib.hid (show (cv col).length = 4 by rw [cv_length, hc])
  have hT := turnB_length col mixM
  have hTl := Lib.hid (show (cv (turnB col mixM)).length = 4 by rw [cv_length, hT])
  have htu := fun w => turned_any col mixM hc rfl w
  obtain ⟨TB, hTB⟩ : ∃ TB, TB = cv (turnB col mixM) := ⟨_, rfl⟩
  rw [← hTB] at hTl htu ⊢
  obtain ⟨MC, hMC⟩ : ∃ MC, MC = cv mixM := ⟨_, rfl⟩
  rw [← hMC] at htu hbu
  have htu' := Lib.hid htu
  clear hT htu hTB hMC hc
  go_enter Try.func32, Try.ntmps32
  go_wp2_with (first
    | (with_reducible refine wpList_load_row rfl 47 _ rfl w.heap.size rfl 47 (ints .u8 (cv col)) (0, 0) _ ((heap_skip _ _ _ (by simp)).trans (heap_at _ _ _ rfl)) Try.underlying47 rfl (sz4 hcl.out) ?_)
    | ((with_reducible go_at_call 42); refine (htu'.out _).mono ?_; rintro e w1 ⟨rfl, hb⟩; have b1 := Lib.hid (below_then (below_alloc (below_alloc (Below.refl w.heap.size w) (.cells (ints .u8 (cv col)) 47 (0, 0))) (.cells (ints .u8 (zer 4)) 47 (0, 0))) (by simp <;> omega) hb); have g1 := Lib.hid (heap_below (heap_at (w.alloc (.cells (ints .u8 (cv col)) 47 (0, 0))) (.cells (ints .u8 (zer 4)) 47 (0, 0)) (w.heap.size + 1) (by simp)) hb); clear hb)
    | (with_reducible refine wpList_store_row rfl 47 _ _ rfl (w.heap.size + 1) (ints .u8 TB) rfl rfl 47 (ints .u8 (zer 4)) g1.out (sz4 hTl.out) (sz_eq ((zer_length 4).trans hTl.out.symm)) (ints_one _ _) ?_))
  refine bodyPost_ret (v := .agg (ints .u8 TB)) (results_cell_row (p := 2) (ty := 47) rfl _ _ (w.heap.size + 1) 47 _ (0, 0) _ rfl (setRow_heap _ _ (ints .u8 (zer 4)) _ _ _ g1.out) Try.underlying47 rfl (sz4 hTl.out)) rfl ⟨rfl, ?_⟩
  exact below_setRow b1.out (by omega) _
set_option maxHeartbeats 2000000 in
set_option maxRecDepth 100000 in
theorem unmix_any (col : Col) (hc : col.length = 4) (w : World) : Calls Try.prog 33 #[.agg (ints .u8 (cv col))] w fun e w' => e = .returned (.agg (ints .u8 (cv (turnB col unM)))) ∧ Below w.heap.size w w' := by
  obtain ⟨hz, -⟩ := zero_of_info (P := Try.prog) info47
  have hbu := buildUn
  have hcl := Lib.hid (show (cv col).length = 4 by rw [cv_length, hc])
  have hT := turnB_length col unM
  have hTl := Lib.hid (show (cv (turnB col unM)).length = 4 by rw [cv_length, hT])
  have htu := fun w => turned_any col unM hc rfl w
  obtain ⟨TB, hTB⟩ : ∃ TB, TB = cv (turnB col unM) := ⟨_, rfl⟩
  rw [← hTB] at hTl htu ⊢
  obtain ⟨MC, hMC⟩ : ∃ MC, MC = cv unM := ⟨_, rfl⟩
  rw [← hMC] at htu hbu
  have htu' := Lib.hid htu
  clear hT htu hTB hMC hc
  go_enter Try.func33, Try.ntmps33
  go_wp2_with (first
    | (with_reducible refine wpList_load_row rfl 47 _ rfl w.heap.size rfl 47 (ints .u8 (cv col)) (0, 0) _ ((heap_skip _ _ _ (by simp)).trans (heap_at _ _ _ rfl)) Try.underlying47 rfl (sz4 hcl.out) ?_)
    | ((with_reducible go_at_call 42); refine (htu'.out _).mono ?_; rintro e w1 ⟨rfl, hb⟩; have b1 := Lib.hid (below_then (below_alloc (below_alloc (Below.refl w.heap.size w) (.cells (ints .u8 (cv col)) 47 (0, 0))) (.cells (ints .u8 (zer 4)) 47 (0, 0))) (by simp <;> omega) hb); have g1 := Lib.hid (heap_below (heap_at (w.alloc (.cells (ints .u8 (cv col)) 47 (0, 0))) (.cells (ints .u8 (zer 4)) 47 (0, 0)) (w.heap.size + 1) (by simp)) hb); clear hb)
    | (with_reducible refine wpList_store_row rfl 47 _ _ rfl (w.heap.size + 1) (ints .u8 TB) rfl rfl 47 (ints .u8 (zer 4)) g1.out (sz4 hTl.out) (sz_eq ((zer_length 4).trans hTl.out.symm)) (ints_one _ _) ?_))
  refine bodyPost_ret (v := .agg (ints .u8 TB)) (results_cell_row (p := 2) (ty := 47) rfl _ _ (w.heap.size + 1) 47 _ (0, 0) _ rfl (setRow_heap _ _ (ints .u8 (zer 4)) _ _ _ g1.out) Try.underlying47 rfl (sz4 hTl.out)) rfl ⟨rfl, ?_⟩
  exact below_setRow b1.out (by omega) _
theorem outB_row (col m : Col) (i : Nat) (hi : i < 4) : (outB col m i 0).set i (rowB col m i 4) = outB col m (i + 1) 0 := by
  rw [outB_next col m i hi]
  rcases lt4 hi with rfl | rfl | rfl | rfl <;> simp [outB, List.range, List.range.loop]
set_option maxHeartbeats 8000000 in
set_option maxRecDepth 100000 in
theorem refTurned_any (col m : Col) (hc : col.length = 4) (hm : m.length = 4) (w : World) :
    Calls Try.prog 34 #[.agg (ints .u8 (cv col)), .agg (ints .u8 (cv m))] w fun e w' => e = .returned (.agg (ints .u8 (cv (turnB col m)))) ∧ Below w.heap.size w w' := by
  obtain ⟨hz, -⟩ := zero_of_info (P := Try.prog) info47
  have hbu := build40
  have hcl := Lib.hid (show (cv col).length = 4 by rw [cv_length, hc])
  have hml := Lib.hid (show (cv m).length = 4 by rw [cv_length, hm])
  have hc' := Lib.hid hc
  have hm' := Lib.hid hm
  have hmul' := Lib.hid (fun a b w => refMul_any a b w)
  have hz4 := Lib.hid (zer_length 4)
  obtain ⟨Z, hZ⟩ : ∃ Z, Z = zer 4 := ⟨_, rfl⟩
  rw [← hZ] at hz hbu hz4
  have hZ' := Lib.hid hZ
  clear hc hm hZ
  go_enter Try.func34, Try.ntmps34
  go_wp2_with (with_reducible refine wpList_store_row rfl 47 _ _ rfl (w.heap.size + 1 + 1 + 1) (ints .u8 Z) rfl rfl 47 (ints .u8 Z) (heap_at _ _ _ (by simp)) (sz4 hz4.out) rfl (ints_one _ _) ?_)
  go_loopw [6] (fun u wr => ∃ i : Nat, i ≤ 4 ∧ u = .int .i64 i ∧ wr.heap[w.heap.size + 1 + 1 + 1]? = some (.cells (ints .u8 (cv (outB col m i 0))) 47 (0, 0)) ∧ wr.heap[w.heap.size]? = some (.cells (ints .u8 (cv col)) 47 (0, 0)) ∧ wr.heap[w.heap.size + 1]? = some (.cells (ints .u8 (cv m)) 47 (0, 0)) ∧ wr.heap[w.heap.size + 1 + 1]? = some (.cells (ints .u8 Z) 47 (0, 0)) ∧ Below w.heap.size w wr) (fun u _ => 4 - (intOf u).toNat)
  case atStart =>
    refine ⟨0, by omega, rfl, ?_, ?_, ?_, ?_, ?_⟩
    · rw [outB_start, ← zer4_eq, ← hZ'.out]; exact setRow_heap _ _ (ints .u8 Z) _ _ _ (heap_at _ _ _ (by simp))
    · rw [setRow_other _ _ _ _ (by omega), heap_skip _ _ _ (by simp <;> omega), heap_skip _ _ _ (by simp <;> omega), heap_skip _ _ _ (by simp)]; exact heap_at _ _ _ rfl
    · rw [setRow_other _ _ _ _ (by omega), heap_skip _ _ _ (by simp <;> omega), heap_skip _ _ _ (by simp)]; exact heap_at _ _ _ (by simp)
    · rw [setRow_other _ _ _ _ (by omega), heap_skip _ _ _ (by simp)]; exact heap_at _ _ _ (by simp)
    · exact below_setRow (below_alloc (below_alloc (below_alloc (below_alloc (Below.refl _ _) _) _) _) _) (by omega) _
  case round =>
    obtain ⟨i, hi, rfl, h5, h2, h3, h4, hb⟩ := hrel
    have h5' := Lib.hid h5
    have h2' := Lib.hid h2
    have h3' := Lib.hid h3
    have h4' := Lib.hid h4
    have hb' := Lib.hid hb
    clear h5 h2 h3 h4 hb
    by_cases hlt : i < 4
    · have hlI : (i : Int) < 4 := by omega
      obtain ⟨y0, hy0⟩ : ∃ y, y = m.getD 0 0#8 := ⟨_, rfl⟩
      have hmg0 := Lib.hid (show (cv m).getD 0 0 = B y0 by rw [hy0]; exact cv_getD m 0 (by rw [hm'.out]; decide))
      obtain ⟨x0, hx0⟩ : ∃ x, x = col.getD i 0#8 := ⟨_, rfl⟩
      have hcg0 := Lib.hid (show (cv col).getD i 0 = B x0 by rw [hx0]; exact cv_getD col i (by rw [hc'.out]; exact hlt))
      obtain ⟨y1, hy1⟩ : ∃ y, y = m.getD 1 0#8 := ⟨_, rfl⟩
      have hmg1 := Lib.hid (show (cv m).getD 1 0 = B y1 by rw [hy1]; exact cv_getD m 1 (by rw [hm'.out]; decide))
      obtain ⟨s1, hs1⟩ : ∃ s, s = i + 1 := ⟨_, rfl⟩
      obtain ⟨r1, hr1⟩ : ∃ r, r = s1 % 4 := ⟨_, rfl⟩
      have hr41 : r1 < 4 := by omega
      have hrI1 : (r1 : Int) < 4 := by omega
      have hsum1 := Lib.hid (show wrap64 ((i : Int) + 1) = (s1 : Int) by rw [hs1]; unfold wrap64; omega)
      have hrem1 := Lib.hid (show Int.tmod (s1 : Int) 4 = (r1 : Int) by rw [Int.tmod_eq_emod_of_nonneg (by omega), hr1]; omega)
      obtain ⟨x1, hx1⟩ : ∃ x, x = col.getD r1 0#8 := ⟨_, rfl⟩
      have hcg1 := Lib.hid (show (cv col).getD r1 0 = B x1 by rw [hx1]; exact cv_getD col r1 (by rw [hc'.out]; exact hr41))
      obtain ⟨y2, hy2⟩ : ∃ y, y = m.getD 2 0#8 := ⟨_, rfl⟩
      have hmg2 := Lib.hid (show (cv m).getD 2 0 = B y2 by rw [hy2]; exact cv_getD m 2 (by rw [hm'.out]; decide))
      obtain ⟨s2, hs2⟩ : ∃ s, s = i + 2 := ⟨_, rfl⟩
      obtain ⟨r2, hr2⟩ : ∃ r, r = s2 % 4 := ⟨_, rfl⟩
      have hr42 : r2 < 4 := by omega
      have hrI2 : (r2 : Int) < 4 := by omega
      have hsum2 := Lib.hid (show wrap64 ((i : Int) + 2) = (s2 : Int) by rw [hs2]; unfold wrap64; omega)
      have hrem2 := Lib.hid (show Int.tmod (s2 : Int) 4 = (r2 : Int) by rw [Int.tmod_eq_emod_of_nonneg (by omega), hr2]; omega)
      obtain ⟨x2, hx2⟩ : ∃ x, x = col.getD r2 0#8 := ⟨_, rfl⟩
      have hcg2 := Lib.hid (show (cv col).getD r2 0 = B x2 by rw [hx2]; exact cv_getD col r2 (by rw [hc'.out]; exact hr42))
      obtain ⟨y3, hy3⟩ : ∃ y, y = m.getD 3 0#8 := ⟨_, rfl⟩
      have hmg3 := Lib.hid (show (cv m).getD 3 0 = B y3 by rw [hy3]; exact cv_getD m 3 (by rw [hm'.out]; decide))
      obtain ⟨s3, hs3⟩ : ∃ s, s = i + 3 := ⟨_, rfl⟩
      obtain ⟨r3, hr3⟩ : ∃ r, r = s3 % 4 := ⟨_, rfl⟩
      have hr43 : r3 < 4 := by omega
      have hrI3 : (r3 : Int) < 4 := by omega
      have hsum3 := Lib.hid (show wrap64 ((i : Int) + 3) = (s3 : Int) by rw [hs3]; unfold wrap64; omega)
      have hrem3 := Lib.hid (show Int.tmod (s3 : Int) 4 = (r3 : Int) by rw [Int.tmod_eq_emod_of_nonneg (by omega), hr3]; omega)
      obtain ⟨x3, hx3⟩ : ∃ x, x = col.getD r3 0#8 := ⟨_, rfl⟩
      have hcg3 := Lib.hid (show (cv col).getD r3 0 = B x3 by rw [hx3]; exact cv_getD col r3 (by rw [hc'.out]; exact hr43))
      obtain ⟨O, hO⟩ : ∃ O, O = outB col m i 0 := ⟨_, rfl⟩
      have hOl := Lib.hid (show (cv O).length = 4 by rw [cv_length, hO, outB_length])
      have hnext := Lib.hid (show O.set i (mul P8 y0 x0 ^^^ mul P8 y1 x1 ^^^ mul P8 y2 x2 ^^^ mul P8 y3 x3) = outB col m (i + 1) 0 by
        rw [hO, ← outB_row col m i hlt]
        simp only [rowB, BitVec.zero_xor]
        rw [hy0, hy1, hy2, hy3, hx0, hx1, hx2, hx3, hr1, hr2, hr3, hs1, hs2, hs3, show (i + 0) % 4 = i from by omega])
      rw [← hO] at h5'
      have hxor := Lib.hid (fun a b => xor8 a b)
      clear hO hy0 hy1 hy2 hy3 hx0 hx1 hx2 hx3 hr1 hr2 hr3 hs1 hs2 hs3
      go_wp2_with fail
      refine start_ (n := 36) (S := fun w' => w'.heap[w.heap.size + 1 + 1 + 1]? = some (.cells (ints .u8 (cv O)) 47 (0, 0)) ∧ w'.heap[w.heap.size]? = some (.cells (ints .u8 (cv col)) 47 (0, 0)) ∧ w'.heap[w.heap.size + 1]? = some (.cells (ints .u8 (cv m)) 47 (0, 0))) (ds := [35]) #[false, false, false, false, false, false, false, false, false, false, false, false, false, false, false, false, false, false, false, false, false, false, false, false, false, false, false, false, false, false, false, false, false, false, false, false] (by kernel_rfl) rfl rfl (by exact ⟨h5'.out, h2'.out, h3'.out⟩) (fun hHeld => ?_)
      refine pure_ (i := 0) (N := some 12) (v := ?_) (a' := ?_) #[true, false, false, false, false, false, false, false, false, false, false, false, false, false, false, false, false, false, false, false, false, false, false, false, false, false, false, false, false, false, false, false, false, false, false, false] rfl rfl (by kernel_rfl) (fun _ _ _ h => h) (Or.inl ⟨by rfl, ?_⟩) ?_ ?_
      rotate_left
      · intro w'
        go_simp
        with_reducible rfl
      rotate_left
      · simp only [Act.put, List.setIfInBounds_toArray, List.set_cons_zero, List.set_cons_succ, i64_w, i32_w]
        rfl
      refine pure_ (i := 1) (N := some 13) (v := ?_) (a' := ?_) #[true, true, false, false, false, false, false, false, false, false, false, false, false, false, false, false, false, false, false, false, false, false, false, false, false, false, false, false, false, false, false, false, false, false, false, false] rfl rfl (by kernel_rfl) (fun _ _ _ h => h) (Or.inl ⟨by rfl, ?_⟩) ?_ ?_
      rotate_left
      · intro w'
        go_simp
        with_reducible rfl
      rotate_left
      · simp only [Act.put, List.setIfInBounds_toArray, List.set_cons_zero, List.set_cons_succ, i64_w, i32_w]
        rfl
      refine take_ (i := 2) (N := some 14) (v := ?_) (a' := ?_) #[true, true, true, false, false, false, false, false, false, false, false, false, false, false, false, false, false, false, false, false, false, false, false, false, false, false, false, false, false, false, false, false, false, false, false, false] rfl rfl (by kernel_rfl) (fun _ _ _ h => h) (Or.inl ⟨by rfl, ?_⟩) hHeld ?_ ?_
      rotate_left
      · intro w' hS
        have hq := ints_cell hS.2.2 0 (by rw [hml.out]; decide); rw [hmg0.out] at hq
        go_simp
        with_reducible rfl
      rotate_left
      · simp only [Act.put, List.setIfInBounds_toArray, List.set_cons_zero, List.set_cons_succ, i64_w, i32_w]
        rfl
      refine pure_ (i := 3) (N := some 15) (v := ?_) (a' := ?_) #[true, true, true, true, false, false, false, false, false, false, false, false, false, false, false, false, false, false, false, false, false, false, false, false, false, false, false, false, false, false, false, false, false, false, false, false] rfl rfl (by kernel_rfl) (fun _ _ _ h => h) (Or.inl ⟨by rfl, ?_⟩) ?_ ?_
      rotate_left
      · intro w'
        go_simp
        with_reducible rfl
      rotate_left
      · simp only [Act.put, List.setIfInBounds_toArray, List.set_cons_zero, List.set_cons_succ, i64_w, i32_w]
        rfl
      refine pure_ (i := 4) (N := some 16) (v := ?_) (a' := ?_) #[true, true, true, true, true, false, false, false, false, false, false, false, false, false, false, false, false, false, false, false, false, false, false, false, false, false, false, false, false, false, false, false, false, false, false, false] rfl rfl (by kernel_rfl) (fun _ _ _ h => h) (Or.inl ⟨by rfl, ?_⟩) ?_ ?_
      rotate_left
      · intro w'
        go_simp
        with_reducible rfl
      rotate_left
      · simp only [Act.put, List.setIfInBounds_toArray, List.set_cons_zero, List.set_cons_succ, i64_w, i32_w]
        rfl
      refine take_ (i := 5) (N := some 17) (v := ?_) (a' := ?_) #[true, true, true, true, true, true, false, false, false, false, false, false, false, false, false, false, false, false, false, false, false, false, false, false, false, false, false, false, false, false, false, false, false, false, false, false] rfl rfl (by kernel_rfl) (fun _ _ _ h => h) (Or.inl ⟨by rfl, ?_⟩) hHeld ?_ ?_
      rotate_left
      · intro w' hS
        have hq := ints_cell hS.2.1 i (by rw [hcl.out]; exact hlt); rw [hcg0.out] at hq
        go_simp
        with_reducible rfl
      rotate_left
      · simp only [Act.put, List.setIfInBounds_toArray, List.set_cons_zero, List.set_cons_succ, i64_w, i32_w]
        rfl
      refine pure_ (i := 7) (N := some 19) (v := ?_) (a' := ?_) #[true, true, true, true, true, true, false, true, false, false, false, false, false, false, false, false, false, false, false, false, false, false, false, false, false, false, false, false, false, false, false, false, false, false, false, false] rfl rfl (by kernel_rfl) (fun _ _ _ h => h) (Or.inl ⟨by rfl, ?_⟩) ?_ ?_
      rotate_left
      · intro w'
        go_simp
        with_reducible rfl
      rotate_left
      · simp only [Act.put, List.setIfInBounds_toArray, List.set_cons_zero, List.set_cons_succ, i64_w, i32_w]
        rfl
      refine take_ (i := 8) (N := some 20) (v := ?_) (a' := ?_) #[true, true, true, true, true, true, false, true, true, false, false, false, false, false, false, false, false, false, false, false, false, false, false, false, false, false, false, false, false, false, false, false, false, false, false, false] rfl rfl (by kernel_rfl) (fun _ _ _ h => h) (Or.inl ⟨by rfl, ?_⟩) hHeld ?_ ?_
      rotate_left
      · intro w' hS
        have hq := ints_cell hS.2.2 1 (by rw [hml.out]; decide); rw [hmg1.out] at hq
        go_simp
        with_reducible rfl
      rotate_left
      · simp only [Act.put, List.setIfInBounds_toArray, List.set_cons_zero, List.set_cons_succ, i64_w, i32_w]
        rfl
      refine pure_ (i := 9) (N := some 21) (v := ?_) (a' := ?_) #[true, true, true, true, true, true, false, true, true, true, false, false, false, false, false, false, false, false, false, false, false, false, false, false, false, false, false, false, false, false, false, false, false, false, false, false] rfl rfl (by kernel_rfl) (fun _ _ _ h => h) (Or.inl ⟨by rfl, ?_⟩) ?_ ?_
      rotate_left
      · intro w'
        go_simp
        with_reducible rfl
      rotate_left
      · simp only [Act.put, List.setIfInBounds_toArray, List.set_cons_zero, List.set_cons_succ, i64_w, i32_w]
        rfl
      refine pure_ (i := 10) (N := some 22) (v := ?_) (a' := ?_) #[true, true, true, true, true, true, false, true, true, true, true, false, false, false, false, false, false, false, false, false, false, false, false, false, false, false, false, false, false, false, false, false, false, false, false, false] rfl rfl (by kernel_rfl) (fun _ _ _ h => h) (Or.inl ⟨by rfl, ?_⟩) ?_ ?_
      rotate_left
      · intro w'
        go_simp; rw [show IntKind.i64.wrap ((i : Int) + 1) = (s1 : Int) from (i64_w _).trans hsum1.out]
      rotate_left
      · simp only [Act.put, List.setIfInBounds_toArray, List.set_cons_zero, List.set_cons_succ, i64_w, i32_w]
        rfl
      refine pure_ (i := 11) (N := some 23) (v := ?_) (a' := ?_) #[true, true, true, true, true, true, false, true, true, true, true, true, false, false, false, false, false, false, false, false, false, false, false, false, false, false, false, false, false, false, false, false, false, false, false, false] rfl rfl (by kernel_rfl) (fun _ _ _ h => h) (Or.inl ⟨by rfl, ?_⟩) ?_ ?_
      rotate_left
      · intro w'
        go_simp; rw [hrem1.out]
      rotate_left
      · simp only [Act.put, List.setIfInBounds_toArray, List.set_cons_zero, List.set_cons_succ, i64_w, i32_w]
        rfl
      refine pure_ (i := 12) (N := some 24) (v := ?_) (a' := ?_) #[true, true, true, true, true, true, false, true, true, true, true, true, true, false, false, false, false, false, false, false, false, false, false, false, false, false, false, false, false, false, false, false, false, false, false, false] rfl rfl (by kernel_rfl) (fun _ _ _ h => h) (Or.inl ⟨by rfl, ?_⟩) ?_ ?_
      rotate_left
      · intro w'
        go_simp
        with_reducible rfl
      rotate_left
      · simp only [Act.put, List.setIfInBounds_toArray, List.set_cons_zero, List.set_cons_succ, i64_w, i32_w]
        rfl
      refine take_ (i := 13) (N := some 25) (v := ?_) (a' := ?_) #[true, true, true, true, true, true, false, true, true, true, true, true, true, true, false, false, false, false, false, false, false, false, false, false, false, false, false, false, false, false, false, false, false, false, false, false] rfl rfl (by kernel_rfl) (fun _ _ _ h => h) (Or.inl ⟨by rfl, ?_⟩) hHeld ?_ ?_
      rotate_left
      · intro w' hS
        have hq := ints_cell hS.2.1 r1 (by rw [hcl.out]; exact hr41); rw [hcg1.out] at hq
        go_simp
        with_reducible rfl
      rotate_left
      · simp only [Act.put, List.setIfInBounds_toArray, List.set_cons_zero, List.set_cons_succ, i64_w, i32_w]
        rfl
      refine pure_ (i := 16) (N := some 28) (v := ?_) (a' := ?_) #[true, true, true, true, true, true, false, true, true, true, true, true, true, true, false, false, true, false, false, false, false, false, false, false, false, false, false, false, false, false, false, false, false, false, false, false] rfl rfl (by kernel_rfl) (fun _ _ _ h => h) (Or.inl ⟨by rfl, ?_⟩) ?_ ?_
      rotate_left
      · intro w'
        go_simp
        with_reducible rfl
      rotate_left
      · simp only [Act.put, List.setIfInBounds_toArray, List.set_cons_zero, List.set_cons_succ, i64_w, i32_w]
        rfl
      refine take_ (i := 17) (N := some 29) (v := ?_) (a' := ?_) #[true, true, true, true, true, true, false, true, true, true, true, true, true, true, false, false, true, true, false, false, false, false, false, false, false, false, false, false, false, false, false, false, false, false, false, false] rfl rfl (by kernel_rfl) (fun _ _ _ h => h) (Or.inl ⟨by rfl, ?_⟩) hHeld ?_ ?_
      rotate_left
      · intro w' hS
        have hq := ints_cell hS.2.2 2 (by rw [hml.out]; decide); rw [hmg2.out] at hq
        go_simp
        with_reducible rfl
      rotate_left
      · simp only [Act.put, List.setIfInBounds_toArray, List.set_cons_zero, List.set_cons_succ, i64_w, i32_w]
        rfl
      refine pure_ (i := 18) (N := some 30) (v := ?_) (a' := ?_) #[true, true, true, true, true, true, false, true, true, true, true, true, true, true, false, false, true, true, true, false, false, false, false, false, false, false, false, false, false, false, false, false, false, false, false, false] rfl rfl (by kernel_rfl) (fun _ _ _ h => h) (Or.inl ⟨by rfl, ?_⟩) ?_ ?_
      rotate_left
      · intro w'
        go_simp
        with_reducible rfl
      rotate_left
      · simp only [Act.put, List.setIfInBounds_toArray, List.set_cons_zero, List.set_cons_succ, i64_w, i32_w]
        rfl
      refine pure_ (i := 19) (N := some 31) (v := ?_) (a' := ?_) #[true, true, true, true, true, true, false, true, true, true, true, true, true, true, false, false, true, true, true, true, false, false, false, false, false, false, false, false, false, false, false, false, false, false, false, false] rfl rfl (by kernel_rfl) (fun _ _ _ h => h) (Or.inl ⟨by rfl, ?_⟩) ?_ ?_
      rotate_left
      · intro w'
        go_simp; rw [show IntKind.i64.wrap ((i : Int) + 2) = (s2 : Int) from (i64_w _).trans hsum2.out]
      rotate_left
      · simp only [Act.put, List.setIfInBounds_toArray, List.set_cons_zero, List.set_cons_succ, i64_w, i32_w]
        rfl
      refine pure_ (i := 20) (N := some 32) (v := ?_) (a' := ?_) #[true, true, true, true, true, true, false, true, true, true, true, true, true, true, false, false, true, true, true, true, true, false, false, false, false, false, false, false, false, false, false, false, false, false, false, false] rfl rfl (by kernel_rfl) (fun _ _ _ h => h) (Or.inl ⟨by rfl, ?_⟩) ?_ ?_
      rotate_left
      · intro w'
        go_simp; rw [hrem2.out]
      rotate_left
      · simp only [Act.put, List.setIfInBounds_toArray, List.set_cons_zero, List.set_cons_succ, i64_w, i32_w]
        rfl
      refine pure_ (i := 21) (N := some 33) (v := ?_) (a' := ?_) #[true, true, true, true, true, true, false, true, true, true, true, true, true, true, false, false, true, true, true, true, true, true, false, false, false, false, false, false, false, false, false, false, false, false, false, false] rfl rfl (by kernel_rfl) (fun _ _ _ h => h) (Or.inl ⟨by rfl, ?_⟩) ?_ ?_
      rotate_left
      · intro w'
        go_simp
        with_reducible rfl
      rotate_left
      · simp only [Act.put, List.setIfInBounds_toArray, List.set_cons_zero, List.set_cons_succ, i64_w, i32_w]
        rfl
      refine take_ (i := 22) (N := some 34) (v := ?_) (a' := ?_) #[true, true, true, true, true, true, false, true, true, true, true, true, true, true, false, false, true, true, true, true, true, true, true, false, false, false, false, false, false, false, false, false, false, false, false, false] rfl rfl (by kernel_rfl) (fun _ _ _ h => h) (Or.inl ⟨by rfl, ?_⟩) hHeld ?_ ?_
      rotate_left
      · intro w' hS
        have hq := ints_cell hS.2.1 r2 (by rw [hcl.out]; exact hr42); rw [hcg2.out] at hq
        go_simp
        with_reducible rfl
      rotate_left
      · simp only [Act.put, List.setIfInBounds_toArray, List.set_cons_zero, List.set_cons_succ, i64_w, i32_w]
        rfl
      refine pure_ (i := 25) (N := some 37) (v := ?_) (a' := ?_) #[true, true, true, true, true, true, false, true, true, true, true, true, true, true, false, false, true, true, true, true, true, true, true, false, false, true, false, false, false, false, false, false, false, false, false, false] rfl rfl (by kernel_rfl) (fun _ _ _ h => h) (Or.inl ⟨by rfl, ?_⟩) ?_ ?_
      rotate_left
      · intro w'
        go_simp
        with_reducible rfl
      rotate_left
      · simp only [Act.put, List.setIfInBounds_toArray, List.set_cons_zero, List.set_cons_succ, i64_w, i32_w]
        rfl
      refine take_ (i := 26) (N := some 38) (v := ?_) (a' := ?_) #[true, true, true, true, true, true, false, true, true, true, true, true, true, true, false, false, true, true, true, true, true, true, true, false, false, true, true, false, false, false, false, false, false, false, false, false] rfl rfl (by kernel_rfl) (fun _ _ _ h => h) (Or.inl ⟨by rfl, ?_⟩) hHeld ?_ ?_
      rotate_left
      · intro w' hS
        have hq := ints_cell hS.2.2 3 (by rw [hml.out]; decide); rw [hmg3.out] at hq
        go_simp
        with_reducible rfl
      rotate_left
      · simp only [Act.put, List.setIfInBounds_toArray, List.set_cons_zero, List.set_cons_succ, i64_w, i32_w]
        rfl
      refine pure_ (i := 27) (N := some 39) (v := ?_) (a' := ?_) #[true, true, true, true, true, true, false, true, true, true, true, true, true, true, false, false, true, true, true, true, true, true, true, false, false, true, true, true, false, false, false, false, false, false, false, false] rfl rfl (by kernel_rfl) (fun _ _ _ h => h) (Or.inl ⟨by rfl, ?_⟩) ?_ ?_
      rotate_left
      · intro w'
        go_simp
        with_reducible rfl
      rotate_left
      · simp only [Act.put, List.setIfInBounds_toArray, List.set_cons_zero, List.set_cons_succ, i64_w, i32_w]
        rfl
      refine pure_ (i := 28) (N := some 40) (v := ?_) (a' := ?_) #[true, true, true, true, true, true, false, true, true, true, true, true, true, true, false, false, true, true, true, true, true, true, true, false, false, true, true, true, true, false, false, false, false, false, false, false] rfl rfl (by kernel_rfl) (fun _ _ _ h => h) (Or.inl ⟨by rfl, ?_⟩) ?_ ?_
      rotate_left
      · intro w'
        go_simp; rw [show IntKind.i64.wrap ((i : Int) + 3) = (s3 : Int) from (i64_w _).trans hsum3.out]
      rotate_left
      · simp only [Act.put, List.setIfInBounds_toArray, List.set_cons_zero, List.set_cons_succ, i64_w, i32_w]
        rfl
      refine pure_ (i := 29) (N := some 41) (v := ?_) (a' := ?_) #[true, true, true, true, true, true, false, true, true, true, true, true, true, true, false, false, true, true, true, true, true, true, true, false, false, true, true, true, true, true, false, false, false, false, false, false] rfl rfl (by kernel_rfl) (fun _ _ _ h => h) (Or.inl ⟨by rfl, ?_⟩) ?_ ?_
      rotate_left
      · intro w'
        go_simp; rw [hrem3.out]
      rotate_left
      · simp only [Act.put, List.setIfInBounds_toArray, List.set_cons_zero, List.set_cons_succ, i64_w, i32_w]
        rfl
      refine pure_ (i := 30) (N := some 42) (v := ?_) (a' := ?_) #[true, true, true, true, true, true, false, true, true, true, true, true, true, true, false, false, true, true, true, true, true, true, true, false, false, true, true, true, true, true, true, false, false, false, false, false] rfl rfl (by kernel_rfl) (fun _ _ _ h => h) (Or.inl ⟨by rfl, ?_⟩) ?_ ?_
      rotate_left
      · intro w'
        go_simp
        with_reducible rfl
      rotate_left
      · simp only [Act.put, List.setIfInBounds_toArray, List.set_cons_zero, List.set_cons_succ, i64_w, i32_w]
        rfl
      refine take_ (i := 31) (N := some 43) (v := ?_) (a' := ?_) #[true, true, true, true, true, true, false, true, true, true, true, true, true, true, false, false, true, true, true, true, true, true, true, false, false, true, true, true, true, true, true, true, false, false, false, false] rfl rfl (by kernel_rfl) (fun _ _ _ h => h) (Or.inl ⟨by rfl, ?_⟩) hHeld ?_ ?_
      rotate_left
      · intro w' hS
        have hq := ints_cell hS.2.1 r3 (by rw [hcl.out]; exact hr43); rw [hcg3.out] at hq
        go_simp
        with_reducible rfl
      rotate_left
      · simp only [Act.put, List.setIfInBounds_toArray, List.set_cons_zero, List.set_cons_succ, i64_w, i32_w]
        rfl
      refine one_ (i := 6) (N := some 18) #[true, true, true, true, true, true, true, true, true, true, true, true, true, true, false, false, true, true, true, true, true, true, true, false, false, true, true, true, true, true, true, true, false, false, false, false] rfl rfl (by kernel_rfl) (by decide) (fun K hK => ?_)
      refine goes_ Try.func20 (by kernel_rfl) rfl #[.int .u8 (B y0), .int .u8 (B x0)] (by rfl) rfl rfl (by (try simp only [List.map_toArray, List.map_cons, List.map_nil]); first | done | rfl) ?_
      refine (hmul'.out y0 x0 _).mono ?_
      rintro e w1 ⟨rfl, hd⟩
      refine ⟨_, rfl, ?_⟩
      have hb := hd.below
      have hb2 := (below_drew (Below.refl wr.heap.size wr)).trans hb
      have b1 := Lib.hid (below_then hb'.out hb'.out.size hb2)
      have k1 := Lib.hid (heap_below h4'.out hb2)
      clear hb2
      refine hK.out _ _ ⟨heap_below hHeld.1 hb, heap_below hHeld.2.1 hb, heap_below hHeld.2.2 hb⟩ (fun hHeld => ?_)
      clear hb hd
      clear hK K
      refine norm_ (a' := ?_) ?_ ?_
      rotate_left
      · show Act.put _ (some 18) _ = _
        simp only [Act.put, List.setIfInBounds_toArray, List.set_cons_zero, List.set_cons_succ, i64_w, i32_w]
        rfl
      refine one_ (i := 14) (N := some 26) #[true, true, true, true, true, true, true, true, true, true, true, true, true, true, true, false, true, true, true, true, true, true, true, false, false, true, true, true, true, true, true, true, false, false, false, false] rfl rfl (by kernel_rfl) (by decide) (fun K hK => ?_)
      refine goes_ Try.func20 (by kernel_rfl) rfl #[.int .u8 (B y1), .int .u8 (B x1)] (by rfl) rfl rfl (by (try simp only [List.map_toArray, List.map_cons, List.map_nil]); first | done | rfl) ?_
      refine (hmul'.out y1 x1 _).mono ?_
      rintro e w2 ⟨rfl, hd⟩
      refine ⟨_, rfl, ?_⟩
      have hb := hd.below
      have b2 := Lib.hid (below_then b1.out b1.out.size hb)
      have k2 := Lib.hid (heap_below k1.out hb)
      refine hK.out _ _ ⟨heap_below hHeld.1 hb, heap_below hHeld.2.1 hb, heap_below hHeld.2.2 hb⟩ (fun hHeld => ?_)
      clear hb hd
      clear hK K
      refine norm_ (a' := ?_) ?_ ?_
      rotate_left
      · show Act.put _ (some 26) _ = _
        simp only [Act.put, List.setIfInBounds_toArray, List.set_cons_zero, List.set_cons_succ, i64_w, i32_w]
        rfl
      refine pure_ (i := 15) (N := some 27) (v := ?_) (a' := ?_) #[true, true, true, true, true, true, true, true, true, true, true, true, true, true, true, true, true, true, true, true, true, true, true, false, false, true, true, true, true, true, true, true, false, false, false, false] rfl rfl (by kernel_rfl) (fun _ _ _ h => h) (Or.inl ⟨by rfl, ?_⟩) ?_ ?_
      rotate_left
      · intro w'
        go_simp; rw [hxor.out]
      rotate_left
      · simp only [Act.put, List.setIfInBounds_toArray, List.set_cons_zero, List.set_cons_succ, i64_w, i32_w]
        rfl
      refine one_ (i := 23) (N := some 35) #[true, true, true, true, true, true, true, true, true, true, true, true, true, true, true, true, true, true, true, true, true, true, true, true, false, true, true, true, true, true, true, true, false, false, false, false] rfl rfl (by kernel_rfl) (by decide) (fun K hK => ?_)
      refine goes_ Try.func20 (by kernel_rfl) rfl #[.int .u8 (B y2), .int .u8 (B x2)] (by rfl) rfl rfl (by (try simp only [List.map_toArray, List.map_cons, List.map_nil]); first | done | rfl) ?_
      refine (hmul'.out y2 x2 _).mono ?_
      rintro e w3 ⟨rfl, hd⟩
      refine ⟨_, rfl, ?_⟩
      have hb := hd.below
      have b3 := Lib.hid (below_then b2.out b2.out.size hb)
      have k3 := Lib.hid (heap_below k2.out hb)
      refine hK.out _ _ ⟨heap_below hHeld.1 hb, heap_below hHeld.2.1 hb, heap_below hHeld.2.2 hb⟩ (fun hHeld => ?_)
      clear hb hd
      clear hK K
      refine norm_ (a' := ?_) ?_ ?_
      rotate_left
      · show Act.put _ (some 35) _ = _
        simp only [Act.put, List.setIfInBounds_toArray, List.set_cons_zero, List.set_cons_succ, i64_w, i32_w]
        rfl
      refine pure_ (i := 24) (N := some 36) (v := ?_) (a' := ?_) #[true, true, true, true, true, true, true, true, true, true, true, true, true, true, true, true, true, true, true, true, true, true, true, true, true, true, true, true, true, true, true, true, false, false, false, false] rfl rfl (by kernel_rfl) (fun _ _ _ h => h) (Or.inl ⟨by rfl, ?_⟩) ?_ ?_
      rotate_left
      · intro w'
        go_simp; rw [hxor.out]
      rotate_left
      · simp only [Act.put, List.setIfInBounds_toArray, List.set_cons_zero, List.set_cons_succ, i64_w, i32_w]
        rfl
      refine one_ (i := 32) (N := some 44) #[true, true, true, true, true, true, true, true, true, true, true, true, true, true, true, true, true, true, true, true, true, true, true, true, true, true, true, true, true, true, true, true, true, false, false, false] rfl rfl (by kernel_rfl) (by decide) (fun K hK => ?_)
      refine goes_ Try.func20 (by kernel_rfl) rfl #[.int .u8 (B y3), .int .u8 (B x3)] (by rfl) rfl rfl (by (try simp only [List.map_toArray, List.map_cons, List.map_nil]); first | done | rfl) ?_
      refine (hmul'.out y3 x3 _).mono ?_
      rintro e w4 ⟨rfl, hd⟩
      refine ⟨_, rfl, ?_⟩
      have hb := hd.below
      have b4 := Lib.hid (below_then b3.out b3.out.size hb)
      have k4 := Lib.hid (heap_below k3.out hb)
      refine hK.out _ _ ⟨heap_below hHeld.1 hb, heap_below hHeld.2.1 hb, heap_below hHeld.2.2 hb⟩ (fun hHeld => ?_)
      clear hb hd
      clear hK K
      refine norm_ (a' := ?_) ?_ ?_
      rotate_left
      · show Act.put _ (some 44) _ = _
        simp only [Act.put, List.setIfInBounds_toArray, List.set_cons_zero, List.set_cons_succ, i64_w, i32_w]
        rfl
      refine pure_ (i := 33) (N := some 45) (v := ?_) (a' := ?_) #[true, true, true, true, true, true, true, true, true, true, true, true, true, true, true, true, true, true, true, true, true, true, true, true, true, true, true, true, true, true, true, true, true, true, false, false] rfl rfl (by kernel_rfl) (fun _ _ _ h => h) (Or.inl ⟨by rfl, ?_⟩) ?_ ?_
      rotate_left
      · intro w'
        go_simp; rw [hxor.out]
      rotate_left
      · simp only [Act.put, List.setIfInBounds_toArray, List.set_cons_zero, List.set_cons_succ, i64_w, i32_w]
        rfl
      refine pure_ (i := 34) (N := some 46) (v := ?_) (a' := ?_) #[true, true, true, true, true, true, true, true, true, true, true, true, true, true, true, true, true, true, true, true, true, true, true, true, true, true, true, true, true, true, true, true, true, true, true, false] rfl rfl (by kernel_rfl) (fun _ _ _ h => h) (Or.inl ⟨by rfl, ?_⟩) ?_ ?_
      rotate_left
      · intro w'
        go_simp
        with_reducible rfl
      rotate_left
      · simp only [Act.put, List.setIfInBounds_toArray, List.set_cons_zero, List.set_cons_succ, i64_w, i32_w]
        rfl
      refine last_ (i := 35) (N := none) #[true, true, true, true, true, true, true, true, true, true, true, true, true, true, true, true, true, true, true, true, true, true, true, true, true, true, true, true, true, true, true, true, true, true, true, true] rfl rfl (by kernel_rfl) (by decide) (fun K hK => ?_)
      have hq := ints_cell hHeld.1 i (by rw [hOl.out]; exact hlt)
      have hf := ints_free hHeld.1 i
      have n5 := heap_setCell_same w4 (w.heap.size + 1 + 1 + 1) i (ints .u8 (cv O)) 47 (.int .u8 (B (mul P8 y0 x0 ^^^ mul P8 y1 x1 ^^^ mul P8 y2 x2 ^^^ mul P8 y3 x3))) hHeld.1
      refine skip_ (w1 := w4.setCell ⟨w.heap.size + 1 + 1 + 1, i, none⟩ (.int .u8 (B (mul P8 y0 x0 ^^^ mul P8 y1 x1 ^^^ mul P8 y2 x2 ^^^ mul P8 y3 x3)))) (by rfl) rfl (by go_simp; done) ?_
      refine hK.out _ _ ?_
      clear hK K
      refine done_ (by kernel_rfl) ?_
      have m5 := Lib.hid (show (w4.setCell ⟨w.heap.size + 1 + 1 + 1, i, none⟩ (.int .u8 (B (mul P8 y0 x0 ^^^ mul P8 y1 x1 ^^^ mul P8 y2 x2 ^^^ mul P8 y3 x3)))).heap[w.heap.size + 1 + 1 + 1]? = some (.cells (ints .u8 (cv (outB col m (i + 1) 0))) 47 (0, 0)) by rw [n5, ints_set, cv_set, hnext.out])
      have m2 := Lib.hid ((heap_setCell_other w4 ⟨w.heap.size + 1 + 1 + 1, i, none⟩ w.heap.size (.int .u8 (B (mul P8 y0 x0 ^^^ mul P8 y1 x1 ^^^ mul P8 y2 x2 ^^^ mul P8 y3 x3))) (by show w.heap.size ≠ w.heap.size + 1 + 1 + 1; omega)).trans hHeld.2.1)
      have m3 := Lib.hid ((heap_setCell_other w4 ⟨w.heap.size + 1 + 1 + 1, i, none⟩ (w.heap.size + 1) (.int .u8 (B (mul P8 y0 x0 ^^^ mul P8 y1 x1 ^^^ mul P8 y2 x2 ^^^ mul P8 y3 x3))) (by show w.heap.size + 1 ≠ w.heap.size + 1 + 1 + 1; omega)).trans hHeld.2.2)
      have m4 := Lib.hid ((heap_setCell_other w4 ⟨w.heap.size + 1 + 1 + 1, i, none⟩ (w.heap.size + 1 + 1) (.int .u8 (B (mul P8 y0 x0 ^^^ mul P8 y1 x1 ^^^ mul P8 y2 x2 ^^^ mul P8 y3 x3))) (by show w.heap.size + 1 + 1 ≠ w.heap.size + 1 + 1 + 1; omega)).trans k4.out)
      have mb := Lib.hid (below_set (g := w.heap.size + 1 + 1 + 1) (j := i) (v := .int .u8 (B (mul P8 y0 x0 ^^^ mul P8 y1 x1 ^^^ mul P8 y2 x2 ^^^ mul P8 y3 x3))) b4.out (by omega))
      generalize w4.setCell ⟨w.heap.size + 1 + 1 + 1, i, none⟩ (.int .u8 (B (mul P8 y0 x0 ^^^ mul P8 y1 x1 ^^^ mul P8 y2 x2 ^^^ mul P8 y3 x3))) = w5 at *
      clear hq hf n5 hHeld hnext hOl hsum1 hsum2 hsum3 hrem1 hrem2 hrem3 h5' h2' h3' h4' hb' b1 b2 b3 b4 k1 k2 k3 k4
      go_wp2
      refine ⟨⟨i + 1, by omega, by go_num, m5.out, m2.out, m3.out, m4.out, mb.out⟩, ?measure⟩
      case measure => simp [intOf]; omega
    · obtain rfl : i = 4 := by omega
      clear hlt hi
      have hT := turnB_length col m
      have hTl := Lib.hid (show (cv (turnB col m)).length = 4 by rw [cv_length, hT])
      have h5'' := Lib.hid (show wr.heap[w.heap.size + 1 + 1 + 1]? = some (.cells (ints .u8 (cv (turnB col m))) 47 (0, 0)) from h5'.out)
      obtain ⟨TB, hTB⟩ : ∃ TB, TB = cv (turnB col m) := ⟨_, rfl⟩
      rw [← hTB] at hTl h5''
      have hTB' := Lib.hid hTB
      clear hT h5' hTB
      go_wp2_with (first
        | (with_reducible refine wpList_load_row rfl 47 _ rfl (w.heap.size + 1 + 1 + 1) rfl 47 (ints .u8 TB) (0, 0) _ h5''.out Try.underlying47 rfl (sz4 hTl.out) ?_)
        | (with_reducible refine wpList_store_row rfl 47 _ _ rfl (w.heap.size + 1 + 1) (ints .u8 TB) rfl rfl 47 (ints .u8 Z) h4'.out (sz4 hTl.out) (sz_eq (hz4.out.trans hTl.out.symm)) (ints_one _ _) ?_))
      refine bodyPost_ret (v := .agg (ints .u8 TB)) (results_cell_row (p := 4) (ty := 47) rfl _ _ (w.heap.size + 1 + 1) 47 _ (0, 0) _ rfl (setRow_heap _ _ (ints .u8 Z) _ _ _ h4'.out) Try.underlying47 rfl (sz4 hTl.out)) rfl ⟨by rw [hTB'.out], ?_⟩
      exact below_setRow hb'.out (by omega) _
end Go.Proofs.Ythmahaoadoeoaaa.Own
