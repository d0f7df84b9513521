/- command.part, walked. -/
import Derived.Test.YtiogdomjmjiahaaCmU
namespace Go.Proofs.Ytiogdomjmjiahaa.Own
open Go.RowKit Go.Proofs.Ytiogdomjmjiahaa.Arr Go.Proofs.Ytiogdomjmjiahaa.QA Go.Proofs.YtiogdomjmjiahaaW.PrintWords Go.Proofs.YtiogdomjmjiahaaW.PrintLast Go.Proofs.YtiogdomjmjiahaaW.PrintMore
set_option linter.unusedVariables false
set_option linter.unusedSimpArgs false
section
variable {P : Program} {a : Act} {op : Oper}
theorem exec_slice_lh (w : World) (ty e : TypeId) (hu : P.underlying ty = some (.slice e)) (x lo hi : Operand) (ho : op.op = .slice ty x (some lo) (some hi) none) (vx vl vh v : Value) (hx : a.eval x = vx) (hl : a.eval lo = vl) (hh : a.eval hi = vh)
    (hr : (Instr.slice ty vx (some vl) (some vh) none).run P w = .ok v w) : (execOp a.eval op).run P w = .ok (.value v) w := by
  unfold execOp
  simp only [ho, Option.map_some, Option.map_none, hx, hl, hh, Sem.run_bind, Sem.run_pure, Result.andThen_ok, Instr.sliceAt, run_underlying hu, hr]
theorem exec_slice_l (w : World) (ty e : TypeId) (hu : P.underlying ty = some (.slice e)) (x lo : Operand) (ho : op.op = .slice ty x (some lo) none none) (vx vl v : Value) (hx : a.eval x = vx) (hl : a.eval lo = vl)
    (hr : (Instr.slice ty vx (some vl) none none).run P w = .ok v w) : (execOp a.eval op).run P w = .ok (.value v) w := by
  unfold execOp
  simp only [ho, Option.map_some, Option.map_none, hx, hl, Sem.run_bind, Sem.run_pure, Result.andThen_ok, Instr.sliceAt, run_underlying hu, hr]
end
/-- A part and what is behind; none: there is none. -/
def partF (l : List Int) : Option (List Int × List Int) :=
  if l.length < 4 then none else if numL (l.take 4) > 1048576 ∨ numL (l.take 4) > (l.length : Int) - 4 then none else some ((l.take (4 + (numL (l.take 4)).toNat)).drop 4, l.drop (4 + (numL (l.take 4)).toNat))
set_option maxHeartbeats 2000000 in
set_option maxRecDepth 100000 in
theorem part_short (A : Option Addr) (c n : Nat) (h : n < 4) (w : World) : Calls Try.prog 60 #[.slice A n c] w fun e w' => e = .returned (.tuple #[.slice none 0 0, .slice none 0 0, .bool false]) ∧ Drawn0 w w' := by
  have h' : (n : Int) < 4 := by omega
  clear h
  go_enter Try.func60, Try.ntmps60
  go_wp2
  go_ret3
  exact ⟨rfl, Drawn0.refl _⟩
/-- Its beginning is a number of m. -/
theorem num_of (A : Option Addr) (c : Nat) (l : List Int) (w : World) (hC : Kd.C (Kd.int .u8) w A l.length l) (hc : l.length ≤ c) (h4 : 4 ≤ l.length) (m : Nat) (hm : numL (l.take 4) = (m : Int)) :
    Calls Try.prog 59 #[.slice A 4 c] w fun e w' => e = .returned (.int .u64 (m : Int)) ∧ Drawn0 w w' := by
  have hl : (l.take 4).length = 4 := by rw [List.length_take]; omega
  have hC4 := Kd.C_take hC h4
  have h := num_any A c (l.take 4) w hC4 (by omega)
  rw [hl, show 4 - 8 = 0 from rfl, List.drop_zero, hm] at h
  exact h
set_option maxHeartbeats 2000000 in
set_option maxRecDepth 100000 in
theorem part_over (A : Option Addr) (c : Nat) (l : List Int) (w : World) (hC : Kd.C (Kd.int .u8) w A l.length l) (hc : l.length ≤ c) (h4 : 4 ≤ l.length) (hlen : l.length ≤ 140737488351232) (m : Nat) (hm : numL (l.take 4) = (m : Int)) (hm2 : m < 4294967296) (ho : 1048576 < m ∨ l.length < m + 4) :
    Calls Try.prog 60 #[.slice A l.length c] w fun e w' => e = .returned (.tuple #[.slice none 0 0, .slice none 0 0, .bool false]) ∧ Drawn0 w w' := by
  have hnum := num_of A c l w hC hc h4 m hm
  have hcut := cut_to A l.length c 4 (by omega)
  have hcut' : ∀ W : World, (Instr.slice 25 (.slice A l.length c) none (some (.int .i64 4)) none).run Try.prog W = .ok (.slice A 4 c) W := hcut
  have hnum' := Lib.hid hnum
  have h4' : ¬ (l.length : Int) < 4 := by omega
  have hm0 : 0 ≤ (m : Int) := by omega
  have hm1 : (m : Int) < 9223372036854775808 := by omega
  clear hnum hcut hm hC
  by_cases h1 : 1048576 < m
  · have h1' : 1048576 < (m : Int) := by omega
    clear ho h1
    go_enter Try.func60, Try.ntmps60
    go_wp2_with (go_at_call 59; refine hnum'.out.mono ?_; rintro e w1 ⟨rfl, hd⟩; have hd' := Lib.hid hd; clear hd)
    go_ret3
    exact ⟨rfl, hd'.out⟩
  · have h1' : ¬ 1048576 < (m : Int) := by omega
    have h2' : (l.length : Int) - 4 < (m : Int) := by omega
    clear ho h1
    go_enter Try.func60, Try.ntmps60
    go_wp2_with (go_at_call 59; refine hnum'.out.mono ?_; rintro e w1 ⟨rfl, hd⟩; have hd' := Lib.hid hd; clear hd)
    go_ret3
    exact ⟨rfl, hd'.out⟩
set_option maxHeartbeats 4000000 in
set_option maxRecDepth 100000 in
theorem part_good (A : Option Addr) (c : Nat) (l : List Int) (w : World) (hC : Kd.C (Kd.int .u8) w A l.length l) (hc : l.length ≤ c) (h4 : 4 ≤ l.length) (hlen : l.length ≤ 140737488351232) (m : Nat) (hm : numL (l.take 4) = (m : Int)) (h1 : m ≤ 1048576) (h2 : m + 4 ≤ l.length) :
    Calls Try.prog 60 #[.slice A l.length c] w fun e w' => ∃ A1 c1 A2, e = .returned (.tuple #[.slice A1 ((l.take (4 + m)).drop 4).length c1, .slice A2 (l.drop (4 + m)).length (c - (4 + m)), .bool true]) ∧ Kd.C (Kd.int .u8) w' A1 ((l.take (4 + m)).drop 4).length ((l.take (4 + m)).drop 4) ∧ ((l.take (4 + m)).drop 4).length ≤ c1 ∧ Kd.C (Kd.int .u8) w' A2 (l.drop (4 + m)).length (l.drop (4 + m)) ∧ Below w.heap.size w w' := by
  obtain ⟨i0, hi, -, hs, -⟩ := info_parts info5
  have hnum := num_of A c l w hC hc h4 m hm
  have hcut : ∀ W : World, (Instr.slice 25 (.slice A l.length c) none (some (.int .i64 4)) none).run Try.prog W = .ok (.slice A 4 c) W := cut_to A l.length c 4 (by omega)
  obtain ⟨B, hcb, hB⟩ := cut2 (P := Try.prog) 25 5 .i64 .i64 .u8 Try.underlying25 hi hs A l.length c 4 (4 + m) l (by omega) (by omega) hc
  have hcf := cut_from A l.length c (4 + m) (by omega)
  have hCd := Kd.C_drop (c := c) (m := 4 + m) hC (by omega) hc
  have hPl : ((l.take (4 + m)).drop 4).length = m := by rw [List.length_drop, List.length_take]; omega
  have hRl : (l.drop (4 + m)).length = l.length - (4 + m) := List.length_drop
  have hCp : Kd.C (Kd.int .u8) w B ((l.take (4 + m)).drop 4).length ((l.take (4 + m)).drop 4) := by
    have := C_of_readsInt (hB w (readsInt_of_C hC))
    rw [Nat.add_sub_cancel_left] at this
    rw [hPl]; exact this
  obtain ⟨A2, hA2⟩ : ∃ A2, A2 = (if c = 4 + m then A else A.map (·.add (4 + m))) := ⟨_, rfl⟩
  have hCd2 : Kd.C (Kd.int .u8) w A2 (l.drop (4 + m)).length (l.drop (4 + m)) := by
    rw [hA2]
    have e : (4 + m) * (Kd.int .u8).sz = 4 + m := Nat.mul_one _
    rw [e] at hCd
    exact hCd
  rw [← hA2, ← hRl] at hcf
  rw [Nat.add_sub_cancel_left] at hcb
  obtain ⟨Q, hQ⟩ : ∃ Q, Q = (l.take (4 + m)).drop 4 := ⟨_, rfl⟩
  obtain ⟨R, hR⟩ : ∃ R, R = l.drop (4 + m) := ⟨_, rfl⟩
  rw [← hQ] at hPl hCp ⊢
  rw [← hR] at hCd2 hcf ⊢
  obtain ⟨c2, hc2⟩ : ∃ c2, c2 = c - (4 + m) := ⟨_, rfl⟩
  rw [← hc2] at hcf ⊢
  have ei : ((4 + m : Nat) : Int) = wrap64 (4 + (m : Int)) := by rw [w64 _ (by omega) (by omega)]; omega
  rw [ei] at hcb hcf
  clear ei
  have hcb' : ∀ W : World, (Instr.slice 25 (.slice A l.length c) (some (.int .i64 4)) (some (.int .i64 (wrap64 (4 + (m : Int))))) none).run Try.prog W = .ok (.slice B Q.length (c - 4)) W := by rw [hPl]; exact hcb
  obtain ⟨q1, hq1⟩ : ∃ q1, q1 = c - 4 := ⟨_, rfl⟩
  rw [← hq1] at hcb'
  have hcbh := Lib.hid hcb'
  have hcfh := Lib.hid hcf
  clear hcb' hcf
  have hnum' := Lib.hid hnum
  have hCp' := Lib.hid hCp
  have hCd' := Lib.hid hCd2
  have hPl' := Lib.hid hPl
  have h4' : ¬ (l.length : Int) < 4 := by omega
  have hm0 : 0 ≤ (m : Int) := by omega
  have hm1 : (m : Int) < 9223372036854775808 := by omega
  have e1 : decide (1048576 < (m : Int)) = false := decide_eq_false (by omega)
  have e2 : decide ((l.length : Int) - 4 < (m : Int)) = false := decide_eq_false (by omega)
  have hm2' := Lib.hid h1
  clear hnum hcb hB hm hC hi hs hCd hRl hCp hA2 hCd2 hQ hR hc2 hq1 hPl h1 h2 h4
  go_enter Try.func60, Try.ntmps60
  go_upto_region 6 with (go_at_call 59; refine hnum'.out.mono ?_; rintro e w1 ⟨rfl, hd⟩; have hb1 := Lib.hid hd.below; clear hd)
  have hcb' := hcbh.out
  have hcf := hcfh.out
  refine start_ (n := 13) (S := fun _ => True) (ds := []) #[false, false, false, false, false, false, false, false, false, false, false, false, false] (by kernel_rfl) rfl rfl (by exact trivial) (fun hHeld => ?_)
  refine pure_ (i := 1) (N := some 23) (v := ?_) (a' := ?_) #[false, true, false, false, false, false, false, false, false, false, false, false, false] rfl rfl (by kernel_rfl) (fun _ _ _ h => h) (Or.inl ⟨by rfl, ?_⟩) ?_ ?_
  rotate_left
  · intro w'
    go_simp
    with_reducible rfl
  rotate_left
  · simp only [Act.put, List.setIfInBounds_toArray, List.set_cons_zero, List.set_cons_succ, i64_w, i32_w]
    rfl
  refine pure_ (i := 2) (N := some 24) (v := ?_) (a' := ?_) #[false, true, true, false, false, false, false, false, false, false, false, false, false] rfl rfl (by kernel_rfl) (fun _ _ _ h => h) (Or.inl ⟨by rfl, ?_⟩) ?_ ?_
  rotate_left
  · intro w'
    go_simp
    with_reducible rfl
  rotate_left
  · simp only [Act.put, List.setIfInBounds_toArray, List.set_cons_zero, List.set_cons_succ, i64_w, i32_w]
    rfl
  refine pure_ (i := 3) (N := some 25) (v := ?_) (a' := ?_) #[false, true, true, true, false, false, false, false, false, false, false, false, false] rfl rfl (by kernel_rfl) (fun _ _ _ h => h) (Or.inl ⟨by rfl, ?_⟩) ?_ ?_
  rotate_left
  · intro w'
    go_simp
    with_reducible rfl
  rotate_left
  · simp only [Act.put, List.setIfInBounds_toArray, List.set_cons_zero, List.set_cons_succ, i64_w, i32_w]
    rfl
  refine pure_ (i := 4) (N := some 26) (v := ?_) (a' := ?_) #[false, true, true, true, true, false, false, false, false, false, false, false, false] rfl rfl (by kernel_rfl) (fun _ _ _ h => h) (Or.inl ⟨by rfl, ?_⟩) ?_ ?_
  rotate_left
  · intro w'
    refine (exec_slice_lh w' 25 _ Try.underlying25 _ _ _ (by rfl) (.slice A l.length c) (.int .i64 4) (.int .i64 (wrap64 (4 + (m : Int)))) _ (by rfl) (by rfl) (by rfl) (hcb' w')).trans ?_; with_reducible rfl
  rotate_left
  · simp only [Act.put, List.setIfInBounds_toArray, List.set_cons_zero, List.set_cons_succ, i64_w, i32_w]
    rfl
  refine pure_ (i := 6) (N := some 28) (v := ?_) (a' := ?_) #[false, true, true, true, true, false, true, false, false, false, false, false, false] rfl rfl (by kernel_rfl) (fun _ _ _ h => h) (Or.inl ⟨by rfl, ?_⟩) ?_ ?_
  rotate_left
  · intro w'
    go_simp
    with_reducible rfl
  rotate_left
  · simp only [Act.put, List.setIfInBounds_toArray, List.set_cons_zero, List.set_cons_succ, i64_w, i32_w]
    rfl
  refine pure_ (i := 7) (N := some 29) (v := ?_) (a' := ?_) #[false, true, true, true, true, false, true, true, false, false, false, false, false] rfl rfl (by kernel_rfl) (fun _ _ _ h => h) (Or.inl ⟨by rfl, ?_⟩) ?_ ?_
  rotate_left
  · intro w'
    go_simp
    with_reducible rfl
  rotate_left
  · simp only [Act.put, List.setIfInBounds_toArray, List.set_cons_zero, List.set_cons_succ, i64_w, i32_w]
    rfl
  refine pure_ (i := 8) (N := some 30) (v := ?_) (a' := ?_) #[false, true, true, true, true, false, true, true, true, false, false, false, false] rfl rfl (by kernel_rfl) (fun _ _ _ h => h) (Or.inl ⟨by rfl, ?_⟩) ?_ ?_
  rotate_left
  · intro w'
    go_simp
    with_reducible rfl
  rotate_left
  · simp only [Act.put, List.setIfInBounds_toArray, List.set_cons_zero, List.set_cons_succ, i64_w, i32_w]
    rfl
  refine pure_ (i := 9) (N := some 31) (v := ?_) (a' := ?_) #[false, true, true, true, true, false, true, true, true, true, false, false, false] rfl rfl (by kernel_rfl) (fun _ _ _ h => h) (Or.inl ⟨by rfl, ?_⟩) ?_ ?_
  rotate_left
  · intro w'
    refine (exec_slice_l w' 25 _ Try.underlying25 _ _ (by rfl) (.slice A l.length c) (.int .i64 (wrap64 (4 + (m : Int)))) _ (by rfl) (by rfl) (hcf w')).trans ?_; with_reducible rfl
  rotate_left
  · simp only [Act.put, List.setIfInBounds_toArray, List.set_cons_zero, List.set_cons_succ, i64_w, i32_w]
    rfl
  refine one_ (i := 0) (N := some 22) #[true, true, true, true, true, false, true, true, true, true, false, false, false] rfl rfl (by kernel_rfl) (by decide) (fun K hK => ?_)
  clear hcb' hcf
  refine value_ (w1 := w1.drew.alloc (.cells #[] 5 (0, 0))) (v := .slice (some ⟨w1.heap.size, 0, none⟩) 0 0) (by rfl) rfl (by go_simp; done) ?_
  refine hK.out _ _ trivial (fun hHeld => ?_)
  clear hK K
  refine norm_ (a' := ?_) ?_ ?_
  rotate_left
  · show Act.put _ (some 22) _ = _
    simp only [Act.put, List.setIfInBounds_toArray, List.set_cons_zero, List.set_cons_succ, i64_w, i32_w]
    rfl
  refine one_ (i := 5) (N := some 27) #[true, true, true, true, true, true, true, true, true, true, false, false, false] rfl rfl (by kernel_rfl) (by decide) (fun K hK => ?_)
  have hbl : Below w.heap.size w (w1.drew.alloc (.cells #[] 5 (0, 0))) := below_alloc (below_drew hb1.out) _
  obtain ⟨A1, c1, w3, hrun, hC1, hc1, hb3, hA1⟩ := append_full (w := w1.drew.alloc (.cells #[] 5 (0, 0))) (A := some ⟨w1.heap.size, 0, none⟩) (l := []) (cb := q1) 25 (C_block (k := .u8) (l := []) (t := 5) (fr := (0, 0)) (heap_at w1.drew _ _ rfl) (by decide)) (Kd.C_below hCp'.out hbl) (by have := hPl'.out; have := hm2'.out; simp only [List.length_nil]; omega)
  refine value_ (w1 := w3) (v := .slice A1 ([] ++ Q).length c1) (by rfl) rfl (exec_append _ (.tmp 22) (.tmp 26) 25 25 (by rfl) (.slice (some ⟨w1.heap.size, 0, none⟩) 0 0) (.slice B Q.length q1) (by rfl) (by rfl) (by exact hrun)) ?_
  refine hK.out _ _ trivial (fun hHeld => ?_)
  have hC3 := Lib.hid hC1
  have hc3 := Lib.hid hc1
  have hb3' := Lib.hid (below_step hbl hb3)
  clear hbl hrun hC1 hc1 hb3 hA1
  clear hK K
  refine norm_ (a' := ?_) ?_ ?_
  rotate_left
  · show Act.put _ (some 27) _ = _
    simp only [Act.put, List.setIfInBounds_toArray, List.set_cons_zero, List.set_cons_succ, i64_w, i32_w]
    rfl
  refine pure_ (i := 10) (N := some 2) (v := ?_) (a' := ?_) #[true, true, true, true, true, true, true, true, true, true, true, false, false] rfl rfl (by kernel_rfl) (fun _ _ _ h => h) (Or.inl ⟨by rfl, ?_⟩) ?_ ?_
  rotate_left
  · intro w'
    go_simp
    with_reducible rfl
  rotate_left
  · simp only [Act.put, List.setIfInBounds_toArray, List.set_cons_zero, List.set_cons_succ, i64_w, i32_w]
    rfl
  refine pure_ (i := 11) (N := some 3) (v := ?_) (a' := ?_) #[true, true, true, true, true, true, true, true, true, true, true, true, false] rfl rfl (by kernel_rfl) (fun _ _ _ h => h) (Or.inl ⟨by rfl, ?_⟩) ?_ ?_
  rotate_left
  · intro w'
    go_simp
    with_reducible rfl
  rotate_left
  · simp only [Act.put, List.setIfInBounds_toArray, List.set_cons_zero, List.set_cons_succ, i64_w, i32_w]
    rfl
  refine pure_ (i := 12) (N := some 4) (v := ?_) (a' := ?_) #[true, true, true, true, true, true, true, true, true, true, true, true, true] rfl rfl (by kernel_rfl) (fun _ _ _ h => h) (Or.inl ⟨by rfl, ?_⟩) ?_ ?_
  rotate_left
  · intro w'
    go_simp
    with_reducible rfl
  rotate_left
  · simp only [Act.put, List.setIfInBounds_toArray, List.set_cons_zero, List.set_cons_succ, i64_w, i32_w]
    rfl
  refine done_ (by kernel_rfl) ?_
  rw [List.nil_append] at hC3 hc3 ⊢
  go_wp2_with fail
  go_ret3
  exact ⟨A1, c1, A2, rfl, hC3.out, hc3.out, Kd.C_below hCd'.out hb3'.out, hb3'.out⟩
end Go.Proofs.Ytiogdomjmjiahaa.Own
