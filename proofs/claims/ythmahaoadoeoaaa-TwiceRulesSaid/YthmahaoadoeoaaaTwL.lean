/- TwiceRules, walked. -/
import Derived.Test.YthmahaoadoeoaaaTwK
namespace Go.Proofs.Ythmahaoadoeoaaa.Own
open Go.RowKit Go.Proofs.Ythmahaoadoeoaaa.Core Go.Proofs.Ythmahaoadoeoaaa.Q Go.Proofs.Ythmahaoadoeoaaa.Tw Go.Proofs.YthmahaoadoeoaaaW.PrintWords Go.Proofs.YthmahaoadoeoaaaW.PrintLast Go.Proofs.YthmahaoadoeoaaaW.PrintMore Go.Proofs.Ythmahaoadoeoaaa.Opz
set_option linter.unusedVariables false
set_option linter.unusedSimpArgs false
set_option maxHeartbeats 8000000 in
set_option maxRecDepth 100000 in
theorem rules (a b c : BitVec 128) (w : World) :
    Calls Try.prog 11 #[.agg (ints .u8 (bys a)), .agg (ints .u8 (bys b)), .agg (ints .u8 (bys c))] w fun e w' => e = .returned (.bool true) ∧ Below w.heap.size w w' := by
  have e1 : mul P128 a b = mul P128 b a := mul_comm _ _ _
  have e2 : mul P128 (mul P128 a b) c = mul P128 a (mul P128 b c) := mul_assoc _ _ _ _
  have e3 : mul P128 a (b ^^^ c) = mul P128 a b ^^^ mul P128 a c := mul_right_xor _ _ _ _
  have e1' := Lib.hid e1
  have e2' := Lib.hid e2
  have e3' := Lib.hid e3
  obtain ⟨La, hLa⟩ : ∃ L, L = ints .u8 (bys a) := ⟨_, rfl⟩
  obtain ⟨Lb, hLb⟩ : ∃ L, L = ints .u8 (bys b) := ⟨_, rfl⟩
  obtain ⟨Lc, hLc⟩ : ∃ L, L = ints .u8 (bys c) := ⟨_, rfl⟩
  rw [← hLa, ← hLb, ← hLc]
  have hLa' := Lib.hid hLa
  have hLb' := Lib.hid hLb
  have hLc' := Lib.hid hLc
  clear hLa hLb hLc e1 e2 e3
  go_enter Try.func11, Try.ntmps11
  go_wp2_with fail
  obtain ⟨W, hW⟩ : ∃ W, W = ((w.alloc (.cells La 32)).alloc (.cells Lb 32)).alloc (.cells Lc 32) := ⟨_, rfl⟩
  have hA : At W w.heap.size a := by rw [hW]; show _ = _; rw [heap_skip _ _ _ (by simp; omega), heap_skip _ _ _ (by simp), heap_at _ _ _ rfl, hLa'.out]
  have hB : At W (w.heap.size + 1) b := by rw [hW]; show _ = _; rw [heap_skip _ _ _ (by simp), heap_at _ _ _ (by simp), hLb'.out]
  have hC : At W (w.heap.size + 2) c := by rw [hW]; show _ = _; rw [heap_at _ _ _ (by simp), hLc'.out]
  have hbW : Below w.heap.size w W := by rw [hW]; exact (((Below.refl _ _).alloc (Nat.le_refl _) _).alloc (by simp) _).alloc (by simp; omega) _
  rw [← hW]
  have hS := Lib.hid (And.intro hA (And.intro hB hC))
  have b0 := Lib.hid hbW
  clear hW hA hB hC hbW
  refine start_ (n := 4) (S := fun w' => At w' w.heap.size a ∧ At w' (w.heap.size + 1) b ∧ At w' (w.heap.size + 2) c) (ds := []) #[false, false, false, false] (by kernel_rfl) rfl rfl (by exact hS.out) (fun hHeld => ?_)
  refine pure_ (i := 0) (N := some 10) (v := ?_) (a' := ?_) #[true, false, false, false] rfl rfl (by kernel_rfl) (fun _ _ _ h => h) (Or.inl ⟨by rfl, ?_⟩) ?_ ?_
  rotate_left
  · intro w'
    go_simp
    with_reducible rfl
  rotate_left
  · simp only [Act.put, List.setIfInBounds_toArray, List.set_cons_zero, List.set_cons_succ, i64_w, i32_w]
    rfl
  refine pure_ (i := 1) (N := some 11) (v := ?_) (a' := ?_) #[true, true, false, false] rfl rfl (by kernel_rfl) (fun _ _ _ h => h) (Or.inl ⟨by rfl, ?_⟩) ?_ ?_
  rotate_left
  · intro w'
    go_simp
    with_reducible rfl
  rotate_left
  · simp only [Act.put, List.setIfInBounds_toArray, List.set_cons_zero, List.set_cons_succ, i64_w, i32_w]
    rfl
  refine one_ (i := 2) (N := some 12) #[true, true, true, false] rfl rfl (by kernel_rfl) (by decide) (fun K hK => ?_)
  refine goes_ Try.func30 (by kernel_rfl) rfl #[.slice (some ⟨(w.heap.size + 1), 0, none⟩) 16 16, .slice (some ⟨(w.heap.size + 2), 0, none⟩) 16 16] (by rfl) rfl rfl (by simp only [List.map_toArray, List.map_cons, List.map_nil]; rfl) ?_
  refine (xor_bys b c _ _ _ _ _ (C_bys hHeld.2.1) (by decide) (C_bys hHeld.2.2) (by decide)).mono ?_
  rintro e w1 ⟨As, cs, rfl, ks, hC, hb⟩
  refine ⟨_, rfl, ?_⟩
  have b1 := Lib.hid (below_then b0.out b0.out.size ((below_drew (Below.refl W.heap.size W)).trans hb))
  have Cs_1 := Lib.hid hC
  clear hC
  refine hK.out _ _ ⟨hHeld.1.below hb, hHeld.2.1.below hb, hHeld.2.2.below hb⟩ (fun hHeld => ?_)
  clear hb b0
  clear hK K
  refine norm_ (a' := ?_) ?_ ?_
  rotate_left
  · show Act.put _ (some 12) _ = _
    simp only [Act.put, List.setIfInBounds_toArray, List.set_cons_zero, List.set_cons_succ, i64_w, i32_w]
    rfl
  refine pure_ (i := 3) (N := some 7) (v := ?_) (a' := ?_) #[true, true, true, true] rfl rfl (by kernel_rfl) (fun _ _ _ h => h) (Or.inl ⟨by rfl, ?_⟩) ?_ ?_
  rotate_left
  · intro w'
    go_simp
    with_reducible rfl
  rotate_left
  · simp only [Act.put, List.setIfInBounds_toArray, List.set_cons_zero, List.set_cons_succ, i64_w, i32_w]
    rfl
  refine done_ (by kernel_rfl) ?_
  have hS := Lib.hid hHeld
  clear hHeld
  go_wp2_with fail
  refine start_ (n := 4) (S := fun w' => At w' w.heap.size a ∧ At w' (w.heap.size + 1) b ∧ At w' (w.heap.size + 2) c) (ds := []) #[false, false, false, false] (by kernel_rfl) rfl rfl (by exact hS.out) (fun hHeld => ?_)
  refine pure_ (i := 0) (N := some 13) (v := ?_) (a' := ?_) #[true, false, false, false] rfl rfl (by kernel_rfl) (fun _ _ _ h => h) (Or.inl ⟨by rfl, ?_⟩) ?_ ?_
  rotate_left
  · intro w'
    go_simp
    with_reducible rfl
  rotate_left
  · simp only [Act.put, List.setIfInBounds_toArray, List.set_cons_zero, List.set_cons_succ, i64_w, i32_w]
    rfl
  refine pure_ (i := 1) (N := some 14) (v := ?_) (a' := ?_) #[true, true, false, false] rfl rfl (by kernel_rfl) (fun _ _ _ h => h) (Or.inl ⟨by rfl, ?_⟩) ?_ ?_
  rotate_left
  · intro w'
    go_simp
    with_reducible rfl
  rotate_left
  · simp only [Act.put, List.setIfInBounds_toArray, List.set_cons_zero, List.set_cons_succ, i64_w, i32_w]
    rfl
  refine one_ (i := 2) (N := some 15) #[true, true, true, false] rfl rfl (by kernel_rfl) (by decide) (fun K hK => ?_)
  refine goes_ Try.func31 (by kernel_rfl) rfl #[.slice (some ⟨w.heap.size, 0, none⟩) 16 16, .slice (some ⟨(w.heap.size + 1), 0, none⟩) 16 16] (by rfl) rfl rfl (by simp only [List.map_toArray, List.map_cons, List.map_nil]; rfl) ?_
  refine (mul_bys a b _ _ _ _ _ (C_bys hHeld.1) (by decide) (C_bys hHeld.2.1) (by decide)).mono ?_
  rintro e w2 ⟨Ax, cx, rfl, kx, hC, hb⟩
  refine ⟨_, rfl, ?_⟩
  have b2 := Lib.hid (below_then b1.out b1.out.size ((below_drew (Below.refl w1.heap.size w1)).trans hb))
  have Cs_2 := Lib.hid (Kd.C_below Cs_1.out ((below_drew (Below.refl w1.heap.size w1)).trans hb))
  have Cx_2 := Lib.hid hC
  clear hC
  refine hK.out _ _ ⟨hHeld.1.below hb, hHeld.2.1.below hb, hHeld.2.2.below hb⟩ (fun hHeld => ?_)
  clear hb b1 Cs_1
  clear hK K
  refine norm_ (a' := ?_) ?_ ?_
  rotate_left
  · show Act.put _ (some 15) _ = _
    simp only [Act.put, List.setIfInBounds_toArray, List.set_cons_zero, List.set_cons_succ, i64_w, i32_w]
    rfl
  refine pure_ (i := 3) (N := some 8) (v := ?_) (a' := ?_) #[true, true, true, true] rfl rfl (by kernel_rfl) (fun _ _ _ h => h) (Or.inl ⟨by rfl, ?_⟩) ?_ ?_
  rotate_left
  · intro w'
    go_simp
    with_reducible rfl
  rotate_left
  · simp only [Act.put, List.setIfInBounds_toArray, List.set_cons_zero, List.set_cons_succ, i64_w, i32_w]
    rfl
  refine done_ (by kernel_rfl) ?_
  have hS := Lib.hid hHeld
  clear hHeld
  go_wp2_with fail
  refine start_ (n := 4) (S := fun w' => At w' w.heap.size a ∧ At w' (w.heap.size + 1) b ∧ At w' (w.heap.size + 2) c) (ds := []) #[false, false, false, false] (by kernel_rfl) rfl rfl (by exact hS.out) (fun hHeld => ?_)
  refine pure_ (i := 0) (N := some 16) (v := ?_) (a' := ?_) #[true, false, false, false] rfl rfl (by kernel_rfl) (fun _ _ _ h => h) (Or.inl ⟨by rfl, ?_⟩) ?_ ?_
  rotate_left
  · intro w'
    go_simp
    with_reducible rfl
  rotate_left
  · simp only [Act.put, List.setIfInBounds_toArray, List.set_cons_zero, List.set_cons_succ, i64_w, i32_w]
    rfl
  refine pure_ (i := 1) (N := some 17) (v := ?_) (a' := ?_) #[true, true, false, false] rfl rfl (by kernel_rfl) (fun _ _ _ h => h) (Or.inl ⟨by rfl, ?_⟩) ?_ ?_
  rotate_left
  · intro w'
    go_simp
    with_reducible rfl
  rotate_left
  · simp only [Act.put, List.setIfInBounds_toArray, List.set_cons_zero, List.set_cons_succ, i64_w, i32_w]
    rfl
  refine one_ (i := 2) (N := some 18) #[true, true, true, false] rfl rfl (by kernel_rfl) (by decide) (fun K hK => ?_)
  refine goes_ Try.func31 (by kernel_rfl) rfl #[.slice (some ⟨w.heap.size, 0, none⟩) 16 16, .slice (some ⟨(w.heap.size + 2), 0, none⟩) 16 16] (by rfl) rfl rfl (by simp only [List.map_toArray, List.map_cons, List.map_nil]; rfl) ?_
  refine (mul_bys a c _ _ _ _ _ (C_bys hHeld.1) (by decide) (C_bys hHeld.2.2) (by decide)).mono ?_
  rintro e w3 ⟨Ay, cy, rfl, ky, hC, hb⟩
  refine ⟨_, rfl, ?_⟩
  have b3 := Lib.hid (below_then b2.out b2.out.size ((below_drew (Below.refl w2.heap.size w2)).trans hb))
  have Cs_3 := Lib.hid (Kd.C_below Cs_2.out ((below_drew (Below.refl w2.heap.size w2)).trans hb))
  have Cx_3 := Lib.hid (Kd.C_below Cx_2.out ((below_drew (Below.refl w2.heap.size w2)).trans hb))
  have Cy_3 := Lib.hid hC
  clear hC
  refine hK.out _ _ ⟨hHeld.1.below hb, hHeld.2.1.below hb, hHeld.2.2.below hb⟩ (fun hHeld => ?_)
  clear hb b2 Cs_2 Cx_2
  clear hK K
  refine norm_ (a' := ?_) ?_ ?_
  rotate_left
  · show Act.put _ (some 18) _ = _
    simp only [Act.put, List.setIfInBounds_toArray, List.set_cons_zero, List.set_cons_succ, i64_w, i32_w]
    rfl
  refine pure_ (i := 3) (N := some 9) (v := ?_) (a' := ?_) #[true, true, true, true] rfl rfl (by kernel_rfl) (fun _ _ _ h => h) (Or.inl ⟨by rfl, ?_⟩) ?_ ?_
  rotate_left
  · intro w'
    go_simp
    with_reducible rfl
  rotate_left
  · simp only [Act.put, List.setIfInBounds_toArray, List.set_cons_zero, List.set_cons_succ, i64_w, i32_w]
    rfl
  refine done_ (by kernel_rfl) ?_
  have hS := Lib.hid hHeld
  clear hHeld
  go_wp2_with fail
  refine start_ (n := 29) (S := fun w' => At w' w.heap.size a ∧ At w' (w.heap.size + 1) b ∧ At w' (w.heap.size + 2) c) (ds := []) #[false, false, false, false, false, false, false, false, false, false, false, false, false, false, false, false, false, false, false, false, false, false, false, false, false, false, false, false, false] (by kernel_rfl) rfl rfl (by exact hS.out) (fun hHeld => ?_)
  refine pure_ (i := 0) (N := some 27) (v := ?_) (a' := ?_) #[true, false, false, false, false, false, false, false, false, false, false, false, false, false, false, false, false, false, false, false, false, false, false, false, false, false, false, false, false] rfl rfl (by kernel_rfl) (fun _ _ _ h => h) (Or.inl ⟨by rfl, ?_⟩) ?_ ?_
  rotate_left
  · intro w'
    go_simp
    with_reducible rfl
  rotate_left
  · simp only [Act.put, List.setIfInBounds_toArray, List.set_cons_zero, List.set_cons_succ, i64_w, i32_w]
    rfl
  refine pure_ (i := 1) (N := some 28) (v := ?_) (a' := ?_) #[true, true, false, false, false, false, false, false, false, false, false, false, false, false, false, false, false, false, false, false, false, false, false, false, false, false, false, false, false] rfl rfl (by kernel_rfl) (fun _ _ _ h => h) (Or.inl ⟨by rfl, ?_⟩) ?_ ?_
  rotate_left
  · intro w'
    go_simp
    with_reducible rfl
  rotate_left
  · simp only [Act.put, List.setIfInBounds_toArray, List.set_cons_zero, List.set_cons_succ, i64_w, i32_w]
    rfl
  refine pure_ (i := 2) (N := some 29) (v := ?_) (a' := ?_) #[true, true, true, false, false, false, false, false, false, false, false, false, false, false, false, false, false, false, false, false, false, false, false, false, false, false, false, false, false] rfl rfl (by kernel_rfl) (fun _ _ _ h => h) (Or.inl ⟨by rfl, ?_⟩) ?_ ?_
  rotate_left
  · intro w'
    go_simp
    with_reducible rfl
  rotate_left
  · simp only [Act.put, List.setIfInBounds_toArray, List.set_cons_zero, List.set_cons_succ, i64_w, i32_w]
    rfl
  refine one_ (i := 3) (N := some 30) #[true, true, true, true, false, false, false, false, false, false, false, false, false, false, false, false, false, false, false, false, false, false, false, false, false, false, false, false, false] rfl rfl (by kernel_rfl) (by decide) (fun K hK => ?_)
  refine goes_ Try.func31 (by kernel_rfl) rfl #[.slice (some ⟨(w.heap.size + 1), 0, none⟩) 16 16, .slice (some ⟨w.heap.size, 0, none⟩) 16 16] (by rfl) rfl rfl (by simp only [List.map_toArray, List.map_cons, List.map_nil]; rfl) ?_
  refine (mul_bys b a _ _ _ _ _ (C_bys hHeld.2.1) (by decide) (C_bys hHeld.1) (by decide)).mono ?_
  rintro e w4 ⟨Au, cu, rfl, ku, hC, hb⟩
  refine ⟨_, rfl, ?_⟩
  have b4 := Lib.hid (below_then b3.out b3.out.size ((below_drew (Below.refl w3.heap.size w3)).trans hb))
  have Cs_4 := Lib.hid (Kd.C_below Cs_3.out ((below_drew (Below.refl w3.heap.size w3)).trans hb))
  have Cx_4 := Lib.hid (Kd.C_below Cx_3.out ((below_drew (Below.refl w3.heap.size w3)).trans hb))
  have Cy_4 := Lib.hid (Kd.C_below Cy_3.out ((below_drew (Below.refl w3.heap.size w3)).trans hb))
  have Cu_4 := Lib.hid hC
  clear hC
  refine hK.out _ _ ⟨hHeld.1.below hb, hHeld.2.1.below hb, hHeld.2.2.below hb⟩ (fun hHeld => ?_)
  clear hb b3 Cs_3 Cx_3 Cy_3
  clear hK K
  refine norm_ (a' := ?_) ?_ ?_
  rotate_left
  · show Act.put _ (some 30) _ = _
    simp only [Act.put, List.setIfInBounds_toArray, List.set_cons_zero, List.set_cons_succ, i64_w, i32_w]
    rfl
  refine one_ (i := 4) (N := some 31) #[true, true, true, true, true, false, false, false, false, false, false, false, false, false, false, false, false, false, false, false, false, false, false, false, false, false, false, false, false] rfl rfl (by kernel_rfl) (by decide) (fun K hK => ?_)
  refine goes_ Try.func16 (by kernel_rfl) rfl #[.slice Ax 16 cx, .slice Au 16 cu] (by rfl) rfl rfl (by simp only [List.map_toArray, List.map_cons, List.map_nil]; rfl) ?_
  refine (same_eq_bys (mul P128 a b) (mul P128 b a) e1'.out _ _ _ _ _ Cx_4.out kx Cu_4.out ku).mono ?_
  rintro e w5 ⟨rfl, hd⟩
  have hb := hd.below
  refine ⟨_, rfl, ?_⟩
  have b5 := Lib.hid (below_then b4.out b4.out.size hb)
  have Cs_5 := Lib.hid (Kd.C_below Cs_4.out hb)
  have Cx_5 := Lib.hid (Kd.C_below Cx_4.out hb)
  have Cy_5 := Lib.hid (Kd.C_below Cy_4.out hb)
  have Cu_5 := Lib.hid (Kd.C_below Cu_4.out hb)
  refine hK.out _ _ ⟨hHeld.1.below hb, hHeld.2.1.below hb, hHeld.2.2.below hb⟩ (fun hHeld => ?_)
  clear hb b4 Cs_4 Cx_4 Cy_4 Cu_4
  clear hd
  clear hK K
  refine norm_ (a' := ?_) ?_ ?_
  rotate_left
  · show Act.put _ (some 31) _ = _
    simp only [Act.put, List.setIfInBounds_toArray, List.set_cons_zero, List.set_cons_succ, i64_w, i32_w]
    rfl
  refine pure_ (i := 5) (N := some 32) (v := ?_) (a' := ?_) #[true, true, true, true, true, true, false, false, false, false, false, false, false, false, false, false, false, false, false, false, false, false, false, false, false, false, false, false, false] rfl rfl (by kernel_rfl) (fun _ _ _ h => h) (Or.inl ⟨by rfl, ?_⟩) ?_ ?_
  rotate_left
  · intro w'
    go_simp
    with_reducible rfl
  rotate_left
  · simp only [Act.put, List.setIfInBounds_toArray, List.set_cons_zero, List.set_cons_succ, i64_w, i32_w]
    rfl
  refine pure_ (i := 6) (N := some 33) (v := ?_) (a' := ?_) #[true, true, true, true, true, true, true, false, false, false, false, false, false, false, false, false, false, false, false, false, false, false, false, false, false, false, false, false, false] rfl rfl (by kernel_rfl) (fun _ _ _ h => h) (Or.inl ⟨by rfl, ?_⟩) ?_ ?_
  rotate_left
  · intro w'
    go_simp
    with_reducible rfl
  rotate_left
  · simp only [Act.put, List.setIfInBounds_toArray, List.set_cons_zero, List.set_cons_succ, i64_w, i32_w]
    rfl
  refine pure_ (i := 7) (N := some 34) (v := ?_) (a' := ?_) #[true, true, true, true, true, true, true, true, false, false, false, false, false, false, false, false, false, false, false, false, false, false, false, false, false, false, false, false, false] rfl rfl (by kernel_rfl) (fun _ _ _ h => h) (Or.inl ⟨by rfl, ?_⟩) ?_ ?_
  rotate_left
  · intro w'
    go_simp
    with_reducible rfl
  rotate_left
  · simp only [Act.put, List.setIfInBounds_toArray, List.set_cons_zero, List.set_cons_succ, i64_w, i32_w]
    rfl
  refine pure_ (i := 9) (N := some 36) (v := ?_) (a' := ?_) #[true, true, true, true, true, true, true, true, false, true, false, false, false, false, false, false, false, false, false, false, false, false, false, false, false, false, false, false, false] rfl rfl (by kernel_rfl) (fun _ _ _ h => h) (Or.inl ⟨by rfl, ?_⟩) ?_ ?_
  rotate_left
  · intro w'
    go_simp
    with_reducible rfl
  rotate_left
  · simp only [Act.put, List.setIfInBounds_toArray, List.set_cons_zero, List.set_cons_succ, i64_w, i32_w]
    rfl
  refine pure_ (i := 10) (N := some 37) (v := ?_) (a' := ?_) #[true, true, true, true, true, true, true, true, false, true, true, false, false, false, false, false, false, false, false, false, false, false, false, false, false, false, false, false, false] rfl rfl (by kernel_rfl) (fun _ _ _ h => h) (Or.inl ⟨by rfl, ?_⟩) ?_ ?_
  rotate_left
  · intro w'
    go_simp
    with_reducible rfl
  rotate_left
  · simp only [Act.put, List.setIfInBounds_toArray, List.set_cons_zero, List.set_cons_succ, i64_w, i32_w]
    rfl
  refine pure_ (i := 11) (N := some 38) (v := ?_) (a' := ?_) #[true, true, true, true, true, true, true, true, false, true, true, true, false, false, false, false, false, false, false, false, false, false, false, false, false, false, false, false, false] rfl rfl (by kernel_rfl) (fun _ _ _ h => h) (Or.inl ⟨by rfl, ?_⟩) ?_ ?_
  rotate_left
  · intro w'
    go_simp
    with_reducible rfl
  rotate_left
  · simp only [Act.put, List.setIfInBounds_toArray, List.set_cons_zero, List.set_cons_succ, i64_w, i32_w]
    rfl
  refine one_ (i := 8) (N := some 35) #[true, true, true, true, true, true, true, true, true, true, true, true, false, false, false, false, false, false, false, false, false, false, false, false, false, false, false, false, false] rfl rfl (by kernel_rfl) (by decide) (fun K hK => ?_)
  refine goes_ Try.func31 (by kernel_rfl) rfl #[.slice Ax 16 cx, .slice (some ⟨(w.heap.size + 2), 0, none⟩) 16 16] (by rfl) rfl rfl (by simp only [List.map_toArray, List.map_cons, List.map_nil]; rfl) ?_
  refine (mul_bys (mul P128 a b) c _ _ _ _ _ Cx_5.out kx (C_bys hHeld.2.2) (by decide)).mono ?_
  rintro e w6 ⟨Ap, cp, rfl, kp, hC, hb⟩
  refine ⟨_, rfl, ?_⟩
  have b6 := Lib.hid (below_then b5.out b5.out.size hb)
  have Cs_6 := Lib.hid (Kd.C_below Cs_5.out hb)
  have Cx_6 := Lib.hid (Kd.C_below Cx_5.out hb)
  have Cy_6 := Lib.hid (Kd.C_below Cy_5.out hb)
  have Cu_6 := Lib.hid (Kd.C_below Cu_5.out hb)
  have Cp_6 := Lib.hid hC
  clear hC
  refine hK.out _ _ ⟨hHeld.1.below hb, hHeld.2.1.below hb, hHeld.2.2.below hb⟩ (fun hHeld => ?_)
  clear hb b5 Cs_5 Cx_5 Cy_5 Cu_5
  clear hK K
  refine norm_ (a' := ?_) ?_ ?_
  rotate_left
  · show Act.put _ (some 35) _ = _
    simp only [Act.put, List.setIfInBounds_toArray, List.set_cons_zero, List.set_cons_succ, i64_w, i32_w]
    rfl
  refine one_ (i := 12) (N := some 39) #[true, true, true, true, true, true, true, true, true, true, true, true, true, false, false, false, false, false, false, false, false, false, false, false, false, false, false, false, false] rfl rfl (by kernel_rfl) (by decide) (fun K hK => ?_)
  refine goes_ Try.func31 (by kernel_rfl) rfl #[.slice (some ⟨(w.heap.size + 1), 0, none⟩) 16 16, .slice (some ⟨(w.heap.size + 2), 0, none⟩) 16 16] (by rfl) rfl rfl (by simp only [List.map_toArray, List.map_cons, List.map_nil]; rfl) ?_
  refine (mul_bys b c _ _ _ _ _ (C_bys hHeld.2.1) (by decide) (C_bys hHeld.2.2) (by decide)).mono ?_
  rintro e w7 ⟨Aq, cq, rfl, kq, hC, hb⟩
  refine ⟨_, rfl, ?_⟩
  have b7 := Lib.hid (below_then b6.out b6.out.size hb)
  have Cs_7 := Lib.hid (Kd.C_below Cs_6.out hb)
  have Cx_7 := Lib.hid (Kd.C_below Cx_6.out hb)
  have Cy_7 := Lib.hid (Kd.C_below Cy_6.out hb)
  have Cu_7 := Lib.hid (Kd.C_below Cu_6.out hb)
  have Cp_7 := Lib.hid (Kd.C_below Cp_6.out hb)
  have Cq_7 := Lib.hid hC
  clear hC
  refine hK.out _ _ ⟨hHeld.1.below hb, hHeld.2.1.below hb, hHeld.2.2.below hb⟩ (fun hHeld => ?_)
  clear hb b6 Cs_6 Cx_6 Cy_6 Cu_6 Cp_6
  clear hK K
  refine norm_ (a' := ?_) ?_ ?_
  rotate_left
  · show Act.put _ (some 39) _ = _
    simp only [Act.put, List.setIfInBounds_toArray, List.set_cons_zero, List.set_cons_succ, i64_w, i32_w]
    rfl
  refine one_ (i := 13) (N := some 40) #[true, true, true, true, true, true, true, true, true, true, true, true, true, true, false, false, false, false, false, false, false, false, false, false, false, false, false, false, false] rfl rfl (by kernel_rfl) (by decide) (fun K hK => ?_)
  refine goes_ Try.func31 (by kernel_rfl) rfl #[.slice (some ⟨w.heap.size, 0, none⟩) 16 16, .slice Aq 16 cq] (by rfl) rfl rfl (by simp only [List.map_toArray, List.map_cons, List.map_nil]; rfl) ?_
  refine (mul_bys a (mul P128 b c) _ _ _ _ _ (C_bys hHeld.1) (by decide) Cq_7.out kq).mono ?_
  rintro e w8 ⟨Ar, cr, rfl, kr, hC, hb⟩
  refine ⟨_, rfl, ?_⟩
  have b8 := Lib.hid (below_then b7.out b7.out.size hb)
  have Cs_8 := Lib.hid (Kd.C_below Cs_7.out hb)
  have Cx_8 := Lib.hid (Kd.C_below Cx_7.out hb)
  have Cy_8 := Lib.hid (Kd.C_below Cy_7.out hb)
  have Cu_8 := Lib.hid (Kd.C_below Cu_7.out hb)
  have Cp_8 := Lib.hid (Kd.C_below Cp_7.out hb)
  have Cq_8 := Lib.hid (Kd.C_below Cq_7.out hb)
  have Cr_8 := Lib.hid hC
  clear hC
  refine hK.out _ _ ⟨hHeld.1.below hb, hHeld.2.1.below hb, hHeld.2.2.below hb⟩ (fun hHeld => ?_)
  clear hb b7 Cs_7 Cx_7 Cy_7 Cu_7 Cp_7 Cq_7
  clear hK K
  refine norm_ (a' := ?_) ?_ ?_
  rotate_left
  · show Act.put _ (some 40) _ = _
    simp only [Act.put, List.setIfInBounds_toArray, List.set_cons_zero, List.set_cons_succ, i64_w, i32_w]
    rfl
  refine one_ (i := 14) (N := some 41) #[true, true, true, true, true, true, true, true, true, true, true, true, true, true, true, false, false, false, false, false, false, false, false, false, false, false, false, false, false] rfl rfl (by kernel_rfl) (by decide) (fun K hK => ?_)
  refine goes_ Try.func16 (by kernel_rfl) rfl #[.slice Ap 16 cp, .slice Ar 16 cr] (by rfl) rfl rfl (by simp only [List.map_toArray, List.map_cons, List.map_nil]; rfl) ?_
  refine (same_eq_bys (mul P128 (mul P128 a b) c) (mul P128 a (mul P128 b c)) e2'.out _ _ _ _ _ Cp_8.out kp Cr_8.out kr).mono ?_
  rintro e w9 ⟨rfl, hd⟩
  have hb := hd.below
  refine ⟨_, rfl, ?_⟩
  have b9 := Lib.hid (below_then b8.out b8.out.size hb)
  have Cs_9 := Lib.hid (Kd.C_below Cs_8.out hb)
  have Cx_9 := Lib.hid (Kd.C_below Cx_8.out hb)
  have Cy_9 := Lib.hid (Kd.C_below Cy_8.out hb)
  have Cu_9 := Lib.hid (Kd.C_below Cu_8.out hb)
  have Cp_9 := Lib.hid (Kd.C_below Cp_8.out hb)
  have Cq_9 := Lib.hid (Kd.C_below Cq_8.out hb)
  have Cr_9 := Lib.hid (Kd.C_below Cr_8.out hb)
  refine hK.out _ _ ⟨hHeld.1.below hb, hHeld.2.1.below hb, hHeld.2.2.below hb⟩ (fun hHeld => ?_)
  clear hb b8 Cs_8 Cx_8 Cy_8 Cu_8 Cp_8 Cq_8 Cr_8
  clear hd
  clear hK K
  refine norm_ (a' := ?_) ?_ ?_
  rotate_left
  · show Act.put _ (some 41) _ = _
    simp only [Act.put, List.setIfInBounds_toArray, List.set_cons_zero, List.set_cons_succ, i64_w, i32_w]
    rfl
  refine pure_ (i := 15) (N := some 42) (v := ?_) (a' := ?_) #[true, true, true, true, true, true, true, true, true, true, true, true, true, true, true, true, false, false, false, false, false, false, false, false, false, false, false, false, false] rfl rfl (by kernel_rfl) (fun _ _ _ h => h) (Or.inl ⟨by rfl, ?_⟩) ?_ ?_
  rotate_left
  · intro w'
    go_simp
    with_reducible rfl
  rotate_left
  · simp only [Act.put, List.setIfInBounds_toArray, List.set_cons_zero, List.set_cons_succ, i64_w, i32_w]
    rfl
  refine pure_ (i := 16) (N := some 43) (v := ?_) (a' := ?_) #[true, true, true, true, true, true, true, true, true, true, true, true, true, true, true, true, true, false, false, false, false, false, false, false, false, false, false, false, false] rfl rfl (by kernel_rfl) (fun _ _ _ h => h) (Or.inl ⟨by rfl, ?_⟩) ?_ ?_
  rotate_left
  · intro w'
    go_simp
    with_reducible rfl
  rotate_left
  · simp only [Act.put, List.setIfInBounds_toArray, List.set_cons_zero, List.set_cons_succ, i64_w, i32_w]
    rfl
  refine pure_ (i := 17) (N := some 44) (v := ?_) (a' := ?_) #[true, true, true, true, true, true, true, true, true, true, true, true, true, true, true, true, true, true, false, false, false, false, false, false, false, false, false, false, false] rfl rfl (by kernel_rfl) (fun _ _ _ h => h) (Or.inl ⟨by rfl, ?_⟩) ?_ ?_
  rotate_left
  · intro w'
    go_simp
    with_reducible rfl
  rotate_left
  · simp only [Act.put, List.setIfInBounds_toArray, List.set_cons_zero, List.set_cons_succ, i64_w, i32_w]
    rfl
  refine pure_ (i := 18) (N := some 45) (v := ?_) (a' := ?_) #[true, true, true, true, true, true, true, true, true, true, true, true, true, true, true, true, true, true, true, false, false, false, false, false, false, false, false, false, false] rfl rfl (by kernel_rfl) (fun _ _ _ h => h) (Or.inl ⟨by rfl, ?_⟩) ?_ ?_
  rotate_left
  · intro w'
    go_simp
    with_reducible rfl
  rotate_left
  · simp only [Act.put, List.setIfInBounds_toArray, List.set_cons_zero, List.set_cons_succ, i64_w, i32_w]
    rfl
  refine pure_ (i := 20) (N := some 47) (v := ?_) (a' := ?_) #[true, true, true, true, true, true, true, true, true, true, true, true, true, true, true, true, true, true, true, false, true, false, false, false, false, false, false, false, false] rfl rfl (by kernel_rfl) (fun _ _ _ h => h) (Or.inl ⟨by rfl, ?_⟩) ?_ ?_
  rotate_left
  · intro w'
    go_simp
    with_reducible rfl
  rotate_left
  · simp only [Act.put, List.setIfInBounds_toArray, List.set_cons_zero, List.set_cons_succ, i64_w, i32_w]
    rfl
  refine pure_ (i := 21) (N := some 48) (v := ?_) (a' := ?_) #[true, true, true, true, true, true, true, true, true, true, true, true, true, true, true, true, true, true, true, false, true, true, false, false, false, false, false, false, false] rfl rfl (by kernel_rfl) (fun _ _ _ h => h) (Or.inl ⟨by rfl, ?_⟩) ?_ ?_
  rotate_left
  · intro w'
    go_simp
    with_reducible rfl
  rotate_left
  · simp only [Act.put, List.setIfInBounds_toArray, List.set_cons_zero, List.set_cons_succ, i64_w, i32_w]
    rfl
  refine one_ (i := 19) (N := some 46) #[true, true, true, true, true, true, true, true, true, true, true, true, true, true, true, true, true, true, true, true, true, true, false, false, false, false, false, false, false] rfl rfl (by kernel_rfl) (by decide) (fun K hK => ?_)
  refine goes_ Try.func31 (by kernel_rfl) rfl #[.slice (some ⟨w.heap.size, 0, none⟩) 16 16, .slice As 16 cs] (by rfl) rfl rfl (by simp only [List.map_toArray, List.map_cons, List.map_nil]; rfl) ?_
  refine (mul_bys a (b ^^^ c) _ _ _ _ _ (C_bys hHeld.1) (by decide) Cs_9.out ks).mono ?_
  rintro e w10 ⟨Am, cm, rfl, km, hC, hb⟩
  refine ⟨_, rfl, ?_⟩
  have b10 := Lib.hid (below_then b9.out b9.out.size hb)
  have Cs_10 := Lib.hid (Kd.C_below Cs_9.out hb)
  have Cx_10 := Lib.hid (Kd.C_below Cx_9.out hb)
  have Cy_10 := Lib.hid (Kd.C_below Cy_9.out hb)
  have Cu_10 := Lib.hid (Kd.C_below Cu_9.out hb)
  have Cp_10 := Lib.hid (Kd.C_below Cp_9.out hb)
  have Cq_10 := Lib.hid (Kd.C_below Cq_9.out hb)
  have Cr_10 := Lib.hid (Kd.C_below Cr_9.out hb)
  have Cm_10 := Lib.hid hC
  clear hC
  refine hK.out _ _ ⟨hHeld.1.below hb, hHeld.2.1.below hb, hHeld.2.2.below hb⟩ (fun hHeld => ?_)
  clear hb b9 Cs_9 Cx_9 Cy_9 Cu_9 Cp_9 Cq_9 Cr_9
  clear hK K
  refine norm_ (a' := ?_) ?_ ?_
  rotate_left
  · show Act.put _ (some 46) _ = _
    simp only [Act.put, List.setIfInBounds_toArray, List.set_cons_zero, List.set_cons_succ, i64_w, i32_w]
    rfl
  refine one_ (i := 22) (N := some 49) #[true, true, true, true, true, true, true, true, true, true, true, true, true, true, true, true, true, true, true, true, true, true, true, false, false, false, false, false, false] rfl rfl (by kernel_rfl) (by decide) (fun K hK => ?_)
  refine goes_ Try.func30 (by kernel_rfl) rfl #[.slice Ax 16 cx, .slice Ay 16 cy] (by rfl) rfl rfl (by simp only [List.map_toArray, List.map_cons, List.map_nil]; rfl) ?_
  refine (xor_bys (mul P128 a b) (mul P128 a c) _ _ _ _ _ Cx_10.out kx Cy_10.out ky).mono ?_
  rintro e w11 ⟨Az, cz, rfl, kz, hC, hb⟩
  refine ⟨_, rfl, ?_⟩
  have b11 := Lib.hid (below_then b10.out b10.out.size hb)
  have Cs_11 := Lib.hid (Kd.C_below Cs_10.out hb)
  have Cx_11 := Lib.hid (Kd.C_below Cx_10.out hb)
  have Cy_11 := Lib.hid (Kd.C_below Cy_10.out hb)
  have Cu_11 := Lib.hid (Kd.C_below Cu_10.out hb)
  have Cp_11 := Lib.hid (Kd.C_below Cp_10.out hb)
  have Cq_11 := Lib.hid (Kd.C_below Cq_10.out hb)
  have Cr_11 := Lib.hid (Kd.C_below Cr_10.out hb)
  have Cm_11 := Lib.hid (Kd.C_below Cm_10.out hb)
  have Cz_11 := Lib.hid hC
  clear hC
  refine hK.out _ _ ⟨hHeld.1.below hb, hHeld.2.1.below hb, hHeld.2.2.below hb⟩ (fun hHeld => ?_)
  clear hb b10 Cs_10 Cx_10 Cy_10 Cu_10 Cp_10 Cq_10 Cr_10 Cm_10
  clear hK K
  refine norm_ (a' := ?_) ?_ ?_
  rotate_left
  · show Act.put _ (some 49) _ = _
    simp only [Act.put, List.setIfInBounds_toArray, List.set_cons_zero, List.set_cons_succ, i64_w, i32_w]
    rfl
  refine one_ (i := 23) (N := some 50) #[true, true, true, true, true, true, true, true, true, true, true, true, true, true, true, true, true, true, true, true, true, true, true, true, false, false, false, false, false] rfl rfl (by kernel_rfl) (by decide) (fun K hK => ?_)
  refine goes_ Try.func16 (by kernel_rfl) rfl #[.slice Am 16 cm, .slice Az 16 cz] (by rfl) rfl rfl (by simp only [List.map_toArray, List.map_cons, List.map_nil]; rfl) ?_
  refine (same_eq_bys (mul P128 a (b ^^^ c)) ((mul P128 a b) ^^^ (mul P128 a c)) e3'.out _ _ _ _ _ Cm_11.out km Cz_11.out kz).mono ?_
  rintro e w12 ⟨rfl, hd⟩
  have hb := hd.below
  refine ⟨_, rfl, ?_⟩
  have b12 := Lib.hid (below_then b11.out b11.out.size hb)
  have Cs_12 := Lib.hid (Kd.C_below Cs_11.out hb)
  have Cx_12 := Lib.hid (Kd.C_below Cx_11.out hb)
  have Cy_12 := Lib.hid (Kd.C_below Cy_11.out hb)
  have Cu_12 := Lib.hid (Kd.C_below Cu_11.out hb)
  have Cp_12 := Lib.hid (Kd.C_below Cp_11.out hb)
  have Cq_12 := Lib.hid (Kd.C_below Cq_11.out hb)
  have Cr_12 := Lib.hid (Kd.C_below Cr_11.out hb)
  have Cm_12 := Lib.hid (Kd.C_below Cm_11.out hb)
  have Cz_12 := Lib.hid (Kd.C_below Cz_11.out hb)
  refine hK.out _ _ ⟨hHeld.1.below hb, hHeld.2.1.below hb, hHeld.2.2.below hb⟩ (fun hHeld => ?_)
  clear hb b11 Cs_11 Cx_11 Cy_11 Cu_11 Cp_11 Cq_11 Cr_11 Cm_11 Cz_11
  clear hd
  clear hK K
  refine norm_ (a' := ?_) ?_ ?_
  rotate_left
  · show Act.put _ (some 50) _ = _
    simp only [Act.put, List.setIfInBounds_toArray, List.set_cons_zero, List.set_cons_succ, i64_w, i32_w]
    rfl
  refine pure_ (i := 24) (N := some 51) (v := ?_) (a' := ?_) #[true, true, true, true, true, true, true, true, true, true, true, true, true, true, true, true, true, true, true, true, true, true, true, true, true, false, false, false, false] rfl rfl (by kernel_rfl) (fun _ _ _ h => h) (Or.inl ⟨by rfl, ?_⟩) ?_ ?_
  rotate_left
  · intro w'
    go_simp
    with_reducible rfl
  rotate_left
  · simp only [Act.put, List.setIfInBounds_toArray, List.set_cons_zero, List.set_cons_succ, i64_w, i32_w]
    rfl
  refine pure_ (i := 25) (N := some 52) (v := ?_) (a' := ?_) #[true, true, true, true, true, true, true, true, true, true, true, true, true, true, true, true, true, true, true, true, true, true, true, true, true, true, false, false, false] rfl rfl (by kernel_rfl) (fun _ _ _ h => h) (Or.inl ⟨by rfl, ?_⟩) ?_ ?_
  rotate_left
  · intro w'
    go_simp
    with_reducible rfl
  rotate_left
  · simp only [Act.put, List.setIfInBounds_toArray, List.set_cons_zero, List.set_cons_succ, i64_w, i32_w]
    rfl
  refine one_ (i := 26) (N := some 53) #[true, true, true, true, true, true, true, true, true, true, true, true, true, true, true, true, true, true, true, true, true, true, true, true, true, true, true, false, false] rfl rfl (by kernel_rfl) (by decide) (fun K hK => ?_)
  refine goes_ Try.func13 (by kernel_rfl) rfl #[] (by rfl) rfl rfl (by simp only [List.map_toArray, List.map_nil]) ?_
  refine (awake_any _).mono ?_
  rintro e w13 ⟨rfl, hb⟩
  refine ⟨_, rfl, ?_⟩
  have b13 := Lib.hid (below_then b12.out b12.out.size hb)
  have Cs_13 := Lib.hid (Kd.C_below Cs_12.out hb)
  have Cx_13 := Lib.hid (Kd.C_below Cx_12.out hb)
  have Cy_13 := Lib.hid (Kd.C_below Cy_12.out hb)
  have Cu_13 := Lib.hid (Kd.C_below Cu_12.out hb)
  have Cp_13 := Lib.hid (Kd.C_below Cp_12.out hb)
  have Cq_13 := Lib.hid (Kd.C_below Cq_12.out hb)
  have Cr_13 := Lib.hid (Kd.C_below Cr_12.out hb)
  have Cm_13 := Lib.hid (Kd.C_below Cm_12.out hb)
  have Cz_13 := Lib.hid (Kd.C_below Cz_12.out hb)
  refine hK.out _ _ ⟨hHeld.1.below hb, hHeld.2.1.below hb, hHeld.2.2.below hb⟩ (fun hHeld => ?_)
  clear hb b12 Cs_12 Cx_12 Cy_12 Cu_12 Cp_12 Cq_12 Cr_12 Cm_12 Cz_12
  clear hK K
  refine norm_ (a' := ?_) ?_ ?_
  rotate_left
  · show Act.put _ (some 53) _ = _
    simp only [Act.put, List.setIfInBounds_toArray, List.set_cons_zero, List.set_cons_succ, i64_w, i32_w]
    rfl
  refine pure_ (i := 27) (N := some 54) (v := ?_) (a' := ?_) #[true, true, true, true, true, true, true, true, true, true, true, true, true, true, true, true, true, true, true, true, true, true, true, true, true, true, true, true, false] rfl rfl (by kernel_rfl) (fun _ _ _ h => h) (Or.inl ⟨by rfl, ?_⟩) ?_ ?_
  rotate_left
  · intro w'
    go_simp
    with_reducible rfl
  rotate_left
  · simp only [Act.put, List.setIfInBounds_toArray, List.set_cons_zero, List.set_cons_succ, i64_w, i32_w]
    rfl
  refine pure_ (i := 28) (N := some 6) (v := ?_) (a' := ?_) #[true, true, true, true, true, true, true, true, true, true, true, true, true, true, true, true, true, true, true, true, true, true, true, true, true, true, true, true, true] rfl rfl (by kernel_rfl) (fun _ _ _ h => h) (Or.inl ⟨by rfl, ?_⟩) ?_ ?_
  rotate_left
  · intro w'
    go_simp
    with_reducible rfl
  rotate_left
  · simp only [Act.put, List.setIfInBounds_toArray, List.set_cons_zero, List.set_cons_succ, i64_w, i32_w]
    rfl
  refine done_ (by kernel_rfl) ?_
  go_wp2_with fail
  go_ret
  exact ⟨rfl, b13.out⟩
theorem TwiceRules_walk (w : World) (x0 : List Int) (cs0 : Array Value) (K0 : x0.length = 16 ∧ VecK (Kd.int .u8).K w x0 cs0.toList) (w0 : ∀ x ∈ x0, (Lit.int .u8 x).wf = true) (x1 : List Int) (cs1 : Array Value) (K1 : x1.length = 16 ∧ VecK (Kd.int .u8).K w x1 cs1.toList) (w1 : ∀ x ∈ x1, (Lit.int .u8 x).wf = true) (x2 : List Int) (cs2 : Array Value) (K2 : x2.length = 16 ∧ VecK (Kd.int .u8).K w x2 cs2.toList) (w2 : ∀ x ∈ x2, (Lit.int .u8 x).wf = true) :
    Calls Try.prog 11 #[.agg cs0, .agg cs1, .agg cs2] w fun e w' => e = .returned (.bool true) ∧ Below w.heap.size w w' := by
  obtain ⟨a, rfl⟩ := arr_bys K0 w0
  obtain ⟨b, rfl⟩ := arr_bys K1 w1
  obtain ⟨c, rfl⟩ := arr_bys K2 w2
  exact rules a b c w
end Go.Proofs.Ythmahaoadoeoaaa.Own
