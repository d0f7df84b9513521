/- Columns of four bytes, turned: field.turned, walked. -/
import Derived.Test.YthmahaoadoeoaaaArr
import Derived.Test.YthmahaoadoeoaaaEqA
import Derived.Test.YthmahaoadoeoaaaPureFieldProducts
namespace Go.Proofs.Ythmahaoadoeoaaa.Own
open Go.RowKit Go.Proofs.Ythmahaoadoeoaaa.Arr Go.Proofs.Ythmahaoadoeoaaa.Core Go.Proofs.Ythmahaoadoeoaaa.Pure Go.Proofs.Ythmahaoadoeoaaa.PFieldProducts Go.Proofs.YthmahaoadoeoaaaW.PrintWords Go.Proofs.YthmahaoadoeoaaaW.PrintLast Go.Proofs.YthmahaoadoeoaaaW.PrintMore
set_option linter.unusedVariables false
set_option linter.unusedSimpArgs false
abbrev Col := List (BitVec 8)
def cv (c : Col) : List Int := c.map B
theorem cv_length (c : Col) : (cv c).length = c.length := by simp [cv]
theorem cv_getD (c : Col) (i : Nat) (h : i < c.length) : (cv c).getD i 0 = B (c.getD i 0#8) := by
  simp [cv, h]
theorem cv_set (c : Col) (i : Nat) (v : BitVec 8) : (cv c).set i (B v) = cv (c.set i v) := by simp [cv, List.map_set]
theorem cv_inj {a b : Col} (h : cv a = cv b) : a = b := List.map_inj_right (fun _ _ h => B_inj h) |>.1 h
def rowB (col m : Col) (i : Nat) : Nat → BitVec 8
  | 0 => 0#8
  | k + 1 => rowB col m i k ^^^ mul P8 (m.getD k 0#8) (col.getD ((i + k) % 4) 0#8)
def outB (col m : Col) (i k : Nat) : Col := (List.range 4).map fun j => if j < i then rowB col m j 4 else if j = i then rowB col m i k else 0#8
theorem outB_length (col m : Col) (i k : Nat) : (outB col m i k).length = 4 := by simp [outB]
theorem lt4 {i : Nat} (h : i < 4) : i = 0 ∨ i = 1 ∨ i = 2 ∨ i = 3 := by omega
theorem outB_start (col m : Col) : outB col m 0 0 = [0#8, 0#8, 0#8, 0#8] := by simp [outB, List.range, List.range.loop, rowB]
theorem outB_set (col m : Col) (i k : Nat) (hi : i < 4) : (outB col m i k).set i (rowB col m i (k + 1)) = outB col m i (k + 1) := by
  rcases lt4 hi with rfl | rfl | rfl | rfl <;> simp [outB, List.range, List.range.loop]
theorem outB_next (col m : Col) (i : Nat) (hi : i < 4) : outB col m (i + 1) 0 = outB col m i 4 := by
  rcases lt4 hi with rfl | rfl | rfl | rfl <;> simp [outB, List.range, List.range.loop, rowB]
theorem outB_get (col m : Col) (i k : Nat) (hi : i < 4) : (outB col m i k).getD i 0#8 = rowB col m i k := by
  rcases lt4 hi with rfl | rfl | rfl | rfl <;> simp [outB, List.range, List.range.loop]
def turnB (col m : Col) : Col := outB col m 4 0
theorem turnB_length (col m : Col) : (turnB col m).length = 4 := outB_length _ _ _ _
theorem info47 : (Try.prog.info? 47).map (fun i => (i.zero, i.size)) = some (some (.agg (ints .u8 (zer 4))), 4) := by kernel_rfl
theorem size47 : (Try.prog.info? 47).map (·.size) = some 4 := by kernel_rfl
theorem size5 : (Try.prog.info? 5).map (·.size) = some 1 := by kernel_rfl
theorem sz4 {k : IntKind} {l : List Int} (h : l.length = 4) : (Try.prog.info? 47).map (·.size) = some (ints k l).size := by rw [ints_size, h]; exact size47
theorem zer4_eq : zer 4 = cv [0#8, 0#8, 0#8, 0#8] := by simp [zer, cv, B, List.replicate]
theorem mul_any (a b : BitVec 8) (w : World) : Calls Try.prog 19 #[.int .u8 (B a), .int .u8 (B b)] w fun e w' => e = .returned (.int .u8 (B (mul P8 a b))) ∧ Drawn0 w w' :=
  field_Mul.calls 200 (B a) (B b) _ w (mul_eq 200 (by decide) a b)
theorem refMul_any (a b : BitVec 8) (w : World) : Calls Try.prog 20 #[.int .u8 (B a), .int .u8 (B b)] w fun e w' => e = .returned (.int .u8 (B (mul P8 a b))) ∧ Drawn0 w w' :=
  nepentheref05_Mul.calls 200 (B a) (B b) _ w (mul_ref_eq 200 (by decide) a b)
theorem awake_any (w : World) : Calls Try.prog 22 #[] w fun e w' => e = .returned (.bool true) ∧ Drawn0 w w' :=
  nepenthelaw05_awake.calls 200 true w (awake_eq 200 (by decide))
attribute [-go_sem] Instr.build
set_option maxHeartbeats 8000000 in
set_option maxRecDepth 100000 in
theorem turned_any (col m : Col) (hc : col.length = 4) (hm : m.length = 4) (w : World) :
    Calls Try.prog 42 #[.agg (ints .u8 (cv col)), .agg (ints .u8 (cv m))] w fun e w' => e = .returned (.agg (ints .u8 (cv (turnB col m)))) ∧ Below w.heap.size w w' := by
  obtain ⟨hz, -⟩ := zero_of_info (P := Try.prog) info47
  have hcl := Lib.hid (show (cv col).length = 4 by rw [cv_length, hc])
  have hml := Lib.hid (show (cv m).length = 4 by rw [cv_length, hm])
  have hc' := Lib.hid hc
  have hm' := Lib.hid hm
  have hmul' := Lib.hid (fun a b w => mul_any a b w)
  clear hc hm
  go_enter Try.func42, Try.ntmps42
  go_wp2_with fail
  go_loopw [9] (fun u wr => ∃ i : Nat, i ≤ 4 ∧ u = .int .i64 i ∧ wr.heap[w.heap.size + 1 + 1 + 1]? = some (.cells (ints .u8 (cv (outB col m i 0))) 47 (0, 0)) ∧ wr.heap[w.heap.size]? = some (.cells (ints .u8 (cv col)) 47 (0, 0)) ∧ wr.heap[w.heap.size + 1]? = some (.cells (ints .u8 (cv m)) 47 (0, 0)) ∧ wr.heap[w.heap.size + 1 + 1]? = some (.cells (ints .u8 (zer 4)) 47 (0, 0)) ∧ Below w.heap.size w wr) (fun u _ => 4 - (intOf u).toNat)
  case atStart =>
    refine ⟨0, by omega, rfl, ?_, ?_, ?_, ?_, ?_⟩
    · rw [outB_start, ← zer4_eq]; exact heap_at _ _ _ (by simp)
    · rw [heap_skip _ _ _ (by simp <;> omega), heap_skip _ _ _ (by simp <;> omega), heap_skip _ _ _ (by simp)]; exact heap_at _ _ _ rfl
    · rw [heap_skip _ _ _ (by simp <;> omega), heap_skip _ _ _ (by simp)]; exact heap_at _ _ _ (by simp)
    · rw [heap_skip _ _ _ (by simp)]; exact heap_at _ _ _ (by simp)
    · exact below_alloc (below_alloc (below_alloc (below_alloc (Below.refl _ _) _) _) _) _
  case round =>
    obtain ⟨i, hi, rfl, h5, h2, h3, h4, hb⟩ := hrel
    have h5' := Lib.hid h5
    have h2' := Lib.hid h2
    have h3' := Lib.hid h3
    have h4' := Lib.hid h4
    have hb' := Lib.hid hb
    clear h5 h2 h3 h4 hb
    by_cases hlt : i < 4
    · go_wp2_with (with_reducible refine wpList_load_row rfl 47 _ rfl (w.heap.size + 1) rfl 47 (ints .u8 (cv m)) (0, 0) _ h3'.out Try.underlying47 rfl (sz4 hml.out) ?_)
      obtain ⟨wo, hwo⟩ : ∃ wo : World, wo = wr := ⟨_, rfl⟩
      go_loopw [13] (fun u wr => ∃ k : Nat, k ≤ 4 ∧ u = .int .i64 k ∧ wr.heap[w.heap.size + 1 + 1 + 1]? = some (.cells (ints .u8 (cv (outB col m i k))) 47 (0, 0)) ∧ wr.heap[w.heap.size]? = some (.cells (ints .u8 (cv col)) 47 (0, 0)) ∧ wr.heap[w.heap.size + 1]? = some (.cells (ints .u8 (cv m)) 47 (0, 0)) ∧ wr.heap[w.heap.size + 1 + 1]? = some (.cells (ints .u8 (zer 4)) 47 (0, 0)) ∧ Below w.heap.size w wr) (fun u _ => 4 - (intOf u).toNat)
      case atStart => exact ⟨0, by omega, rfl, h5'.out, h2'.out, h3'.out, h4'.out, hb'.out⟩
      case round =>
        clear h5' h2' h3' h4' hb' hwo
        obtain ⟨k, hk, rfl, h5, h2, h3, h4, hb⟩ := hrel
        have h5' := Lib.hid h5
        have h2' := Lib.hid h2
        have h3' := Lib.hid h3
        have h4' := Lib.hid h4
        have hb' := Lib.hid hb
        clear h5 h2 h3 h4 hb
        by_cases hlk : k < 4
        · have hidx : ∀ W, (Instr.index 47 (.agg (ints .u8 (cv m))) (.int .i64 (k : Int))).run Try.prog W = .ok (.int .u8 (B (m.getD k 0#8))) W := fun W => by
            rw [← cv_getD m k (by rw [hm'.out]; exact hlk)]
            exact run_index_ints _ 5 4 .u8 (cv m) k Try.underlying47 size5 _ Try.underlying5 rfl hml.out hlk W
          obtain ⟨y, hy⟩ : ∃ y, y = m.getD k 0#8 := ⟨_, rfl⟩
          rw [← hy] at hidx
          obtain ⟨s, hs⟩ : ∃ s, s = i + k := ⟨_, rfl⟩
          obtain ⟨r, hr⟩ : ∃ r, r = s % 4 := ⟨_, rfl⟩
          have hr4 : r < 4 := by omega
          have hrI : (r : Int) < 4 := by omega
          have hsum : wrap64 ((i : Int) + (k : Int)) = (s : Int) := by rw [hs]; unfold wrap64; omega
          have hrem : Int.tmod (s : Int) 4 = (r : Int) := by rw [Int.tmod_eq_emod_of_nonneg (by omega), hr]; omega
          obtain ⟨O, hO⟩ : ∃ O, O = outB col m i k := ⟨_, rfl⟩
          have hOl := Lib.hid (show (cv O).length = 4 by rw [cv_length, hO, outB_length])
          have hOg := Lib.hid (show (cv O).getD i 0 = B (rowB col m i k) by rw [cv_getD O i (by rw [hO, outB_length]; exact hlt), hO, outB_get col m i k hlt])
          have hcg := Lib.hid (show (cv col).getD r 0 = B (col.getD r 0#8) from cv_getD col r (by rw [hc'.out]; exact hr4))
          have hnext := Lib.hid (show O.set i (rowB col m i k ^^^ mul P8 y (col.getD r 0#8)) = outB col m i (k + 1) by rw [hO, ← outB_set col m i k hlt, rowB, hy, hr, hs])
          rw [← hO] at h5'
          obtain ⟨p, hp⟩ : ∃ p, p = rowB col m i k := ⟨_, rfl⟩
          obtain ⟨x, hx⟩ : ∃ x, x = col.getD r 0#8 := ⟨_, rfl⟩
          rw [← hp] at hOg hnext
          rw [← hx] at hcg hnext
          have hsum' := Lib.hid hsum
          have hrem' := Lib.hid hrem
          have hxor := Lib.hid (fun a b => xor8 a b)
          clear hs hr hsum hrem hO hy hp hx
          go_wp2_with fail
          refine start_ (n := 14) (S := fun w' => w'.heap[w.heap.size + 1 + 1 + 1]? = some (.cells (ints .u8 (cv O)) 47 (0, 0)) ∧ w'.heap[w.heap.size]? = some (.cells (ints .u8 (cv col)) 47 (0, 0))) (ds := [13]) #[false, false, false, false, false, false, false, false, false, false, false, false, false, false] (by kernel_rfl) rfl rfl (by exact ⟨h5'.out, h2'.out⟩) (fun hHeld => ?_)
          refine pure_ (i := 0) (N := some 17) (v := ?_) (a' := ?_) #[true, false, false, false, false, false, false, false, false, false, false, false, false, false] rfl rfl (by kernel_rfl) (fun _ _ _ h => h) (Or.inl ⟨by rfl, ?_⟩) ?_ ?_
          rotate_left
          · intro w'
            go_simp
            with_reducible rfl
          rotate_left
          · simp only [Act.put, List.setIfInBounds_toArray, List.set_cons_zero, List.set_cons_succ, i64_w, i32_w]
            rfl
          refine pure_ (i := 1) (N := some 18) (v := ?_) (a' := ?_) #[true, true, false, false, false, false, false, false, false, false, false, false, false, false] rfl rfl (by kernel_rfl) (fun _ _ _ h => h) (Or.inl ⟨by rfl, ?_⟩) ?_ ?_
          rotate_left
          · intro w'
            go_simp
            with_reducible rfl
          rotate_left
          · simp only [Act.put, List.setIfInBounds_toArray, List.set_cons_zero, List.set_cons_succ, i64_w, i32_w]
            rfl
          refine take_ (i := 2) (N := some 19) (v := ?_) (a' := ?_) #[true, true, true, false, false, false, false, false, false, false, false, false, false, false] rfl rfl (by kernel_rfl) (fun _ _ _ h => h) (Or.inl ⟨by rfl, ?_⟩) hHeld ?_ ?_
          rotate_left
          · intro w' hS
            have hq := ints_cell hS.1 i (by rw [hOl.out]; exact hlt); rw [hOg.out] at hq
            go_simp
            with_reducible rfl
          rotate_left
          · simp only [Act.put, List.setIfInBounds_toArray, List.set_cons_zero, List.set_cons_succ, i64_w, i32_w]
            rfl
          refine pure_ (i := 3) (N := some 20) (v := ?_) (a' := ?_) #[true, true, true, true, false, false, false, false, false, false, false, false, false, false] rfl rfl (by kernel_rfl) (fun _ _ _ h => h) (Or.inl ⟨by rfl, ?_⟩) ?_ ?_
          rotate_left
          · intro w'
            go_simp
            with_reducible rfl
          rotate_left
          · simp only [Act.put, List.setIfInBounds_toArray, List.set_cons_zero, List.set_cons_succ, i64_w, i32_w]
            rfl
          refine pure_ (i := 4) (N := some 21) (v := ?_) (a' := ?_) #[true, true, true, true, true, false, false, false, false, false, false, false, false, false] rfl rfl (by kernel_rfl) (fun _ _ _ h => h) (Or.inl ⟨by rfl, ?_⟩) ?_ ?_
          rotate_left
          · intro w'
            go_simp
            with_reducible rfl
          rotate_left
          · simp only [Act.put, List.setIfInBounds_toArray, List.set_cons_zero, List.set_cons_succ, i64_w, i32_w]
            rfl
          refine pure_ (i := 5) (N := some 22) (v := ?_) (a' := ?_) #[true, true, true, true, true, true, false, false, false, false, false, false, false, false] rfl rfl (by kernel_rfl) (fun _ _ _ h => h) (Or.inl ⟨by rfl, ?_⟩) ?_ ?_
          rotate_left
          · intro w'
            go_simp
            with_reducible rfl
          rotate_left
          · simp only [Act.put, List.setIfInBounds_toArray, List.set_cons_zero, List.set_cons_succ, i64_w, i32_w]
            rfl
          refine pure_ (i := 6) (N := some 23) (v := ?_) (a' := ?_) #[true, true, true, true, true, true, true, false, false, false, false, false, false, false] rfl rfl (by kernel_rfl) (fun _ _ _ h => h) (Or.inl ⟨by rfl, ?_⟩) ?_ ?_
          rotate_left
          · intro w'
            go_simp; rw [show IntKind.i64.wrap ((i : Int) + (k : Int)) = (s : Int) from (i64_w _).trans hsum'.out]
          rotate_left
          · simp only [Act.put, List.setIfInBounds_toArray, List.set_cons_zero, List.set_cons_succ, i64_w, i32_w]
            rfl
          refine pure_ (i := 7) (N := some 24) (v := ?_) (a' := ?_) #[true, true, true, true, true, true, true, true, false, false, false, false, false, false] rfl rfl (by kernel_rfl) (fun _ _ _ h => h) (Or.inl ⟨by rfl, ?_⟩) ?_ ?_
          rotate_left
          · intro w'
            go_simp; rw [hrem'.out]
          rotate_left
          · simp only [Act.put, List.setIfInBounds_toArray, List.set_cons_zero, List.set_cons_succ, i64_w, i32_w]
            rfl
          refine pure_ (i := 8) (N := some 25) (v := ?_) (a' := ?_) #[true, true, true, true, true, true, true, true, true, false, false, false, false, false] rfl rfl (by kernel_rfl) (fun _ _ _ h => h) (Or.inl ⟨by rfl, ?_⟩) ?_ ?_
          rotate_left
          · intro w'
            go_simp
            with_reducible rfl
          rotate_left
          · simp only [Act.put, List.setIfInBounds_toArray, List.set_cons_zero, List.set_cons_succ, i64_w, i32_w]
            rfl
          refine take_ (i := 9) (N := some 26) (v := ?_) (a' := ?_) #[true, true, true, true, true, true, true, true, true, true, false, false, false, false] rfl rfl (by kernel_rfl) (fun _ _ _ h => h) (Or.inl ⟨by rfl, ?_⟩) hHeld ?_ ?_
          rotate_left
          · intro w' hS
            have hq := ints_cell hS.2 r (by rw [hcl.out]; exact hr4); rw [hcg.out] at hq
            go_simp
            with_reducible rfl
          rotate_left
          · simp only [Act.put, List.setIfInBounds_toArray, List.set_cons_zero, List.set_cons_succ, i64_w, i32_w]
            rfl
          refine one_ (i := 10) (N := some 27) #[true, true, true, true, true, true, true, true, true, true, true, false, false, false] rfl rfl (by kernel_rfl) (by decide) (fun K hK => ?_)
          refine goes_ Try.func19 (by kernel_rfl) rfl #[.int .u8 (B y), .int .u8 (B x)] (by rfl) rfl rfl (by (try simp only [List.map_toArray, List.map_cons, List.map_nil]); first | done | rfl) ?_
          refine (hmul'.out y x _).mono ?_
          rintro e w2 ⟨rfl, hd⟩
          refine ⟨_, rfl, ?_⟩
          have hb := hd.below
          have hb2 := (below_drew (Below.refl wr.heap.size wr)).trans hb
          have b2 := Lib.hid (below_then hb'.out hb'.out.size hb2)
          have k3 := Lib.hid (heap_below h3'.out hb2)
          have k4 := Lib.hid (heap_below h4'.out hb2)
          refine hK.out _ _ ⟨heap_below hHeld.1 hb, heap_below hHeld.2 hb⟩ (fun hHeld => ?_)
          clear hb hb2 hd
          clear hK K
          refine norm_ (a' := ?_) ?_ ?_
          rotate_left
          · show Act.put _ (some 27) _ = _
            simp only [Act.put, List.setIfInBounds_toArray, List.set_cons_zero, List.set_cons_succ, i64_w, i32_w]
            rfl
          refine pure_ (i := 11) (N := some 28) (v := ?_) (a' := ?_) #[true, true, true, true, true, true, true, true, true, true, true, true, false, false] rfl rfl (by kernel_rfl) (fun _ _ _ h => h) (Or.inl ⟨by rfl, ?_⟩) ?_ ?_
          rotate_left
          · intro w'
            go_simp; rw [hxor.out]
          rotate_left
          · simp only [Act.put, List.setIfInBounds_toArray, List.set_cons_zero, List.set_cons_succ, i64_w, i32_w]
            rfl
          refine pure_ (i := 12) (N := some 29) (v := ?_) (a' := ?_) #[true, true, true, true, true, true, true, true, true, true, true, true, true, false] rfl rfl (by kernel_rfl) (fun _ _ _ h => h) (Or.inl ⟨by rfl, ?_⟩) ?_ ?_
          rotate_left
          · intro w'
            go_simp
            with_reducible rfl
          rotate_left
          · simp only [Act.put, List.setIfInBounds_toArray, List.set_cons_zero, List.set_cons_succ, i64_w, i32_w]
            rfl
          refine last_ (i := 13) (N := none) #[true, true, true, true, true, true, true, true, true, true, true, true, true, true] rfl rfl (by kernel_rfl) (by decide) (fun K hK => ?_)
          have hq := ints_cell hHeld.1 i (by rw [hOl.out]; exact hlt)
          have hf := ints_free hHeld.1 i
          have n5 := heap_setCell_same w2 (w.heap.size + 1 + 1 + 1) i (ints .u8 (cv O)) 47 (.int .u8 (B (p ^^^ mul P8 y x))) hHeld.1
          refine skip_ (w1 := w2.setCell ⟨w.heap.size + 1 + 1 + 1, i, none⟩ (.int .u8 (B (p ^^^ mul P8 y x)))) (by rfl) rfl (by go_simp; done) ?_
          refine hK.out _ _ ?_
          clear hK K
          refine done_ (by kernel_rfl) ?_
          have m5 := Lib.hid (show (w2.setCell ⟨w.heap.size + 1 + 1 + 1, i, none⟩ (.int .u8 (B (p ^^^ mul P8 y x)))).heap[w.heap.size + 1 + 1 + 1]? = some (.cells (ints .u8 (cv (outB col m i (k + 1)))) 47 (0, 0)) by rw [n5, ints_set, cv_set, hnext.out])
          have m2 := Lib.hid ((heap_setCell_other w2 ⟨w.heap.size + 1 + 1 + 1, i, none⟩ w.heap.size (.int .u8 (B (p ^^^ mul P8 y x))) (by show w.heap.size ≠ w.heap.size + 1 + 1 + 1; omega)).trans hHeld.2)
          have m3 := Lib.hid ((heap_setCell_other w2 ⟨w.heap.size + 1 + 1 + 1, i, none⟩ (w.heap.size + 1) (.int .u8 (B (p ^^^ mul P8 y x))) (by show w.heap.size + 1 ≠ w.heap.size + 1 + 1 + 1; omega)).trans k3.out)
          have m4 := Lib.hid ((heap_setCell_other w2 ⟨w.heap.size + 1 + 1 + 1, i, none⟩ (w.heap.size + 1 + 1) (.int .u8 (B (p ^^^ mul P8 y x))) (by show w.heap.size + 1 + 1 ≠ w.heap.size + 1 + 1 + 1; omega)).trans k4.out)
          have mb := Lib.hid (below_set (g := w.heap.size + 1 + 1 + 1) (j := i) (v := .int .u8 (B (p ^^^ mul P8 y x))) b2.out (by omega))
          generalize w2.setCell ⟨w.heap.size + 1 + 1 + 1, i, none⟩ (.int .u8 (B (p ^^^ mul P8 y x))) = w3 at *
          clear hq hf n5 hHeld k3 k4 b2 hidx hnext hcg hOg hOl hsum' hrem' hrI hr4 h5' h2' h3' h4' hb'
          go_wp2
          refine ⟨⟨k + 1, by omega, by go_num, m5.out, m2.out, m3.out, m4.out, mb.out⟩, ?measure⟩
          case measure => simp [intOf]; omega
        · obtain rfl : k = 4 := by omega
          clear hlk hk
          go_wp2
          refine ⟨⟨i + 1, by omega, by go_num, ?_, h2'.out, h3'.out, h4'.out, hb'.out⟩, ?measure⟩
          · rw [outB_next col m i hlt]; exact h5'.out
          case measure => simp [intOf]; omega
    · obtain rfl : i = 4 := by omega
      clear hlt hi
      have hT := turnB_length col m
      have hTl := Lib.hid (show (cv (turnB col m)).length = 4 by rw [cv_length, hT])
      have h5'' := Lib.hid (show wr.heap[w.heap.size + 1 + 1 + 1]? = some (.cells (ints .u8 (cv (turnB col m))) 47 (0, 0)) from h5'.out)
      obtain ⟨TB, hTB⟩ : ∃ TB, TB = cv (turnB col m) := ⟨_, rfl⟩
      rw [← hTB] at hTl h5''
      have hTB' := Lib.hid hTB
      clear hT h5' hTB
      go_wp2_with (first
        | (with_reducible refine wpList_load_row rfl 47 _ rfl (w.heap.size + 1 + 1 + 1) rfl 47 (ints .u8 TB) (0, 0) _ h5''.out Try.underlying47 rfl (sz4 hTl.out) ?_)
        | (with_reducible refine wpList_store_row rfl 47 _ _ rfl (w.heap.size + 1 + 1) (ints .u8 TB) rfl rfl 47 (ints .u8 (zer 4)) h4'.out (sz4 hTl.out) (sz_eq ((zer_length 4).trans hTl.out.symm)) (ints_one _ _) ?_))
      refine bodyPost_ret (v := .agg (ints .u8 TB)) (results_cell_row (p := 4) (ty := 47) rfl _ _ (w.heap.size + 1 + 1) 47 _ (0, 0) _ rfl (setRow_heap _ _ (ints .u8 (zer 4)) _ _ _ h4'.out) Try.underlying47 rfl (sz4 hTl.out)) rfl ⟨by rw [hTB'.out], ?_⟩
      exact below_setRow hb'.out (by omega) _
end Go.Proofs.Ythmahaoadoeoaaa.Own
