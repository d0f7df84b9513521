/- CommandBytes, walked. -/
import Derived.Test.YtiogdomjmjiahaaLwCmdP
import Derived.Test.YtiogdomjmjiahaaLwChecks
import Derived.Test.YtiogdomjmjiahaaOpC
namespace Go.Proofs.Ytiogdomjmjiahaa.Own
open Go.RowKit Go.Proofs.Ytiogdomjmjiahaa.Arr Go.Proofs.Ytiogdomjmjiahaa.QA Go.Proofs.Ytiogdomjmjiahaa.QB Go.Proofs.YtiogdomjmjiahaaW.PrintWords Go.Proofs.YtiogdomjmjiahaaW.PrintLast Go.Proofs.YtiogdomjmjiahaaW.PrintMore
set_option linter.unusedVariables false
set_option linter.unusedSimpArgs false
attribute [-go_sem] Instr.build
theorem big4_byt (x : Int) : ∀ y ∈ big4 x, byt y := by
  intro y hy
  simp [big4] at hy
  unfold byt
  omega
theorem textL_byt (a0 a1 a2 a3 : Int) (P D : List Int) (hP : ∀ x ∈ P, byt x) (hD : ∀ x ∈ D, byt x) : ∀ x ∈ textL a0 a1 a2 a3 P D, byt x := by
  intro x hx
  unfold textL at hx
  rw [head4] at hx
  simp only [List.mem_append] at hx
  rcases hx with (((((h | h | h | h) | h) | h) | h) | h) <;> first | exact big4_byt _ _ h | exact hP _ h | exact hD _ h
theorem textL_len (a0 a1 a2 a3 : Int) (P D : List Int) : (textL a0 a1 a2 a3 P D).length = 24 + P.length + D.length := by
  unfold textL
  rw [head4]
  simp only [List.length_append, big4_len]
  omega
set_option maxHeartbeats 8000000 in
set_option maxRecDepth 100000 in
theorem cbytes_law (a0 a1 a2 a3 : Int) (A : Option Addr) (ca : Nat) (P : List Int) (B : Option Addr) (cb : Nat) (D : List Int) (w : World)
    (hP : Kd.C (Kd.int .u8) w A P.length P) (hca : P.length ≤ ca) (hD : Kd.C (Kd.int .u8) w B D.length D) (hcb : D.length ≤ cb) (bP : ∀ x ∈ P, byt x) (bD : ∀ x ∈ D, byt x) :
    Calls Try.prog 4 #[.agg (ccs a0 a1 a2 a3 A P.length ca B D.length cb)] w (Says true w) := by
  have hawake' := Lib.hid (fun w => lawAwake w)
  have hli := fun (w1 : World) (h : Below w.heap.size w w1) => nepenthelaw28_light.calls a0 a1 a2 a3 A ca P B cb D _ w1 (Kd.C_below hP h) hca (Kd.C_below hD h) hcb (light_f a0 a1 a2 a3 P D)
  have hof := of_any a0 a1 a2 a3 A P.length ca B D.length cb
  obtain ⟨CS, hCS⟩ : ∃ CS : Array Value, CS = ccs a0 a1 a2 a3 A P.length ca B D.length cb := ⟨_, rfl⟩
  have hli2 := Lib.hid (show ∀ w1, Below w.heap.size w w1 → Calls Try.prog 16 #[.agg CS] w1 (fun e w' => e = .returned (.bool (decide (P.length ≤ 3000 ∧ D.length ≤ 9000))) ∧ Below w1.heap.size w1 w') by rw [hCS]; exact hli)
  have hof' := Lib.hid (show ∀ w1, Calls Try.prog 19 #[.agg CS] w1 (fun e w' => e = .returned (.agg CS) ∧ Below w1.heap.size w1 w') by rw [hCS]; exact hof)
  have hCs := Lib.hid (show (Try.prog.info? 27).map (·.size) = some CS.size by rw [hCS]; exact sizeC)
  by_cases hl : P.length ≤ 3000 ∧ D.length ≤ 9000
  case neg =>
    rw [decide_eq_false hl] at hli2
    rw [← hCS]
    clear hl hli hof hP hD hca hcb bP bD hCS hof'
    go_enter Try.func4, Try.ntmps4
    go_wp2_with (first
      | (with_reducible refine wpList_load_row rfl 27 _ rfl w.heap.size rfl 27 CS (0, 0) _ (heap_alloc_last _ _) Try.underlying27 rfl hCs.out ?_)
      | ((with_reducible go_at_call 16); refine (hli2.out _ ((Below.refl _ _).alloc (Nat.le_refl _) _)).mono ?_; clear hli2; rintro e w1 ⟨rfl, hb⟩; have b1 := Lib.hid (below_step ((Below.refl _ _).alloc (Nat.le_refl _) _) hb); clear hb)
      | ((with_reducible go_at_call 15); refine (hawake'.out _).mono ?_; rintro e w2 ⟨rfl, hb⟩; have b2 := Lib.hid (below_step b1.out hb); clear hb))
    go_ret
    exact ⟨rfl, b2.out⟩
  rw [decide_eq_true hl] at hli2
  have hby0 := fun (w1 : World) (h : Below w.heap.size w w1) => bytes_any a0 a1 a2 a3 A ca P B cb D w1 (Kd.C_below hP h) hca (Kd.C_below hD h) hcb (by omega) (by omega)
  have hrb0 := fun (w1 : World) (h : Below w.heap.size w w1) => nepentheref28_Bytes.calls 21 a0 a1 a2 a3 A ca P B cb D _ _ w1 (Kd.C_below hP h) hca (Kd.C_below hD h) hcb (refBytes_eq a0 a1 a2 a3 P D 0)
  by_cases hf : fits6 a0 a1 a2 a3 P D
  case neg =>
    have hby := Lib.hid (show ∀ w1, Below w.heap.size w w1 → Calls Try.prog 17 #[.agg CS] w1 (fun e w' => ∃ v : Value, e = .returned (.tuple #[v, .int .i64 1]) ∧ Kd.R (Kd.int .u8) 5 w' w1.heap.size (fun _ => True) v [] ∧ Below w1.heap.size w1 w') by
      intro w1 h1
      have := hby0 w1 h1
      rw [if_neg hf, if_neg hf] at this
      rw [hCS]; exact this)
    have hrb := Lib.hid (show ∀ w1, Below w.heap.size w w1 → Calls Try.prog 18 #[.agg CS] w1 (fun e w' => ∃ v : Value, e = .returned (.tuple #[v, .bool false]) ∧ Kd.R (Kd.int .u8) 5 w' w1.heap.size (fun _ => True) v [] ∧ Below w1.heap.size w1 w') by
      intro w1 h1
      have := hrb0 w1 h1
      rw [if_neg hf, decide_eq_false hf] at this
      rw [hCS]; exact this)
    rw [← hCS]
    clear hl hli hof hP hD hca hcb bP bD hCS hby0 hrb0 hf
    go_enter Try.func4, Try.ntmps4
    go_wp2_with (first
      | (with_reducible refine wpList_load_row rfl 27 _ rfl w.heap.size rfl 27 CS (0, 0) _ (heap_alloc_last _ _) Try.underlying27 rfl hCs.out ?_)
      | (with_reducible refine wpList_load_row rfl 27 _ rfl w.heap.size rfl 27 CS (0, 0) _ g1.out Try.underlying27 rfl hCs.out ?_)
      | (with_reducible refine wpList_load_row rfl 27 _ rfl w.heap.size rfl 27 CS (0, 0) _ g2.out Try.underlying27 rfl hCs.out ?_)
      | ((with_reducible go_at_call 16); refine (hli2.out _ ((Below.refl _ _).alloc (Nat.le_refl _) _)).mono ?_; clear hli2; rintro e w1 ⟨rfl, hb⟩; have b1 := Lib.hid (below_step ((Below.refl _ _).alloc (Nat.le_refl _) _) hb); have g1 := Lib.hid (heap_below (heap_alloc_last w (.cells CS 27 (0, 0))) hb); clear hb)
      | ((with_reducible go_at_call 17); refine (hby.out _ b1.out).mono ?_; rintro e w2 ⟨v, rfl, hR, hb⟩; obtain ⟨A', c', rfl⟩ := Kd.R_slice hR; have b2 := Lib.hid (below_step b1.out hb); have g2 := Lib.hid (heap_below g1.out hb); clear hb hR g1)
      | ((with_reducible go_at_call 19); refine (hof'.out _).mono ?_; rintro e w3 ⟨rfl, hb⟩; have b3 := Lib.hid (below_step b2.out hb); clear hb)
      | ((with_reducible go_at_call 18); refine (hrb.out _ b3.out).mono ?_; rintro e w4 ⟨v2, rfl, hR, hb⟩; have b4 := Lib.hid (below_step b3.out hb); clear hb hR)
      | ((with_reducible go_at_call 15); refine (hawake'.out _).mono ?_; rintro e w5 ⟨rfl, hb⟩; have b5 := Lib.hid (below_step b4.out hb); clear hb))
    go_ret
    exact ⟨rfl, b5.out⟩
  have hlT := textL_len a0 a1 a2 a3 P D
  have hbT := textL_byt a0 a1 a2 a3 P D bP bD
  have hpT := parseF_text a0 a1 a2 a3 P D hf
  obtain ⟨T, hT⟩ : ∃ T, T = textL a0 a1 a2 a3 P D := ⟨_, rfl⟩
  have hby := Lib.hid (show ∀ w1, Below w.heap.size w w1 → Calls Try.prog 17 #[.agg CS] w1 (fun e w' => ∃ v : Value, e = .returned (.tuple #[v, .int .i64 0]) ∧ Kd.R (Kd.int .u8) 5 w' w1.heap.size (fun _ => True) v T ∧ Below w1.heap.size w1 w') by
    intro w1 h1
    have := hby0 w1 h1
    rw [if_pos hf, if_pos hf, ← hT] at this
    rw [hCS]; exact this)
  have hrb := Lib.hid (show ∀ w1, Below w.heap.size w w1 → Calls Try.prog 18 #[.agg CS] w1 (fun e w' => ∃ v : Value, e = .returned (.tuple #[v, .bool true]) ∧ Kd.R (Kd.int .u8) 5 w' w1.heap.size (fun _ => True) v T ∧ Below w1.heap.size w1 w') by
    intro w1 h1
    have := hrb0 w1 h1
    rw [if_pos hf, decide_eq_true hf, ← hT] at this
    rw [hCS]; exact this)
  rw [← hT] at hlT hbT hpT
  obtain ⟨G, hG⟩ : ∃ G : Option Addr → Nat → Option Addr → Nat → Array Value, G = fun A1 c1 A2 c2 => ccs a0 a1 a2 a3 A1 P.length c1 A2 D.length c2 := ⟨_, rfl⟩
  have hpa := Lib.hid (fun (w1 : World) (A1 : Option Addr) (c1 : Nat) (h1 : Kd.C (Kd.int .u8) w1 A1 T.length T) (h2 : T.length ≤ c1) => show Calls Try.prog 20 #[.slice A1 T.length c1] w1 (fun e w' => ∃ A1 c1 A2 c2, e = .returned (.tuple #[.agg (G A1 c1 A2 c2), .int .i64 0]) ∧ Kd.C (Kd.int .u8) w' A1 P.length P ∧ P.length ≤ c1 ∧ Kd.C (Kd.int .u8) w' A2 D.length D ∧ D.length ≤ c2 ∧ Below w1.heap.size w1 w') by
    have := parse_any A1 c1 T w1 h1 h2 (by omega) hbT
    rw [hpT] at this
    rw [hG]; exact this)
  have hsm := Lib.hid (fun (w1 : World) (A1 : Option Addr) (c1 : Nat) (A2 : Option Addr) (c2 : Nat) (h1 : Kd.C (Kd.int .u8) w1 A1 T.length T) (h2 : T.length ≤ c1) (h3 : Kd.C (Kd.int .u8) w1 A2 T.length T) (h4 : T.length ≤ c2) => show Calls Try.prog 21 #[.slice A1 T.length c1, .slice A2 T.length c2] w1 (fun e w' => e = .returned (.bool true) ∧ Drawn0 w1 w') by
    have := same_any T T (by omega) w1 A1 c1 A2 c2 h1 h2 h3 h4
    rw [decide_eq_true rfl] at this
    exact this)
  have hofG := Lib.hid (fun (A1 : Option Addr) (c1 : Nat) (A2 : Option Addr) (c2 : Nat) (w1 : World) => show Calls Try.prog 19 #[.agg (G A1 c1 A2 c2)] w1 (fun e w' => e = .returned (.agg (G A1 c1 A2 c2)) ∧ Below w1.heap.size w1 w') by rw [hG]; exact of_any a0 a1 a2 a3 A1 P.length c1 A2 D.length c2 w1)
  have hsc := Lib.hid (fun (w1 : World) (h0 : Below w.heap.size w w1) (A1 : Option Addr) (c1 : Nat) (A2 : Option Addr) (c2 : Nat) (h1 : Kd.C (Kd.int .u8) w1 A1 P.length P) (h2 : P.length ≤ c1) (h3 : Kd.C (Kd.int .u8) w1 A2 D.length D) (h4 : D.length ≤ c2) => show Calls Try.prog 22 #[.agg (G A1 c1 A2 c2), .agg CS] w1 (fun e w' => e = .returned (.bool true) ∧ Below w1.heap.size w1 w') by
    rw [hG, hCS]
    exact sameCmd_any a0 a1 a2 a3 P D (by omega) (by omega) w1 A1 c1 A2 c2 A ca B cb h1 h2 h3 h4 (Kd.C_below hP h0) hca (Kd.C_below hD h0) hcb)
  obtain ⟨hz, -⟩ := zero_of_info (P := Try.prog) infoC
  obtain ⟨Z, hZ⟩ : ∃ Z : Array Value, Z = ccs 0 0 0 0 none 0 0 none 0 0 := ⟨_, rfl⟩
  rw [← hZ] at hz
  have hGs := Lib.hid (show ∀ A1 c1 A2 c2, (Try.prog.info? 27).map (·.size) = some (G A1 c1 A2 c2).size by rw [hG]; intros; exact sizeC)
  have hGo := Lib.hid (show ∀ A1 c1 A2 c2, (G A1 c1 A2 c2).all (·.oneCell') = true by rw [hG]; intros; exact ccs_one _ _ _ _ _ _ _ _ _ _)
  have hGZ := Lib.hid (show ∀ A1 c1 A2 c2, Z.size = (G A1 c1 A2 c2).size by rw [hG, hZ]; intros; rfl)
  have hZn := Lib.hid (show ∀ v ∈ Z, ∀ x, v ≠ .int .u8 x by rw [hZ]; exact ccs_not _ _ _ _ _ _ _ _ _ _)
  rw [← hCS]
  clear hl hli hof hP hD hca hcb bP bD hCS hby0 hrb0 hf hlT hbT hpT hT hG hZ
  go_enter Try.func4, Try.ntmps4
  go_wp2_with (first
    | (with_reducible refine wpList_load_row rfl 27 _ rfl w.heap.size rfl 27 CS (0, 0) _ (heap_alloc_last _ _) Try.underlying27 rfl hCs.out ?_)
    | (with_reducible refine wpList_load_row rfl 27 _ rfl w.heap.size rfl 27 CS (0, 0) _ g1.out Try.underlying27 rfl hCs.out ?_)
    | (with_reducible refine wpList_load_row rfl 27 _ rfl w.heap.size rfl 27 CS (0, 0) _ g2.out Try.underlying27 rfl hCs.out ?_)
    | (with_reducible refine wpList_store_row rfl 27 _ _ rfl w5.heap.size (G A1 c1 A2 c2) rfl rfl 27 Z (heap_alloc_last _ _) (hGs.out _ _ _ _) (hGZ.out _ _ _ _) (hGo.out _ _ _ _) ?_; have k6 := Lib.hid (setRow_heap (w5.alloc (.cells Z 27 (0, 0))) w5.heap.size Z (G A1 c1 A2 c2) 27 (0, 0) (heap_alloc_last _ _)))
    | ((with_reducible go_at_call 16); refine (hli2.out _ ((Below.refl _ _).alloc (Nat.le_refl _) _)).mono ?_; clear hli2; rintro e w1 ⟨rfl, hb⟩; have b1 := Lib.hid (below_step ((Below.refl _ _).alloc (Nat.le_refl _) _) hb); have g1 := Lib.hid (heap_below (heap_alloc_last w (.cells CS 27 (0, 0))) hb); clear hb)
    | ((with_reducible go_at_call 17); refine (hby.out _ b1.out).mono ?_; rintro e w2 ⟨v, rfl, hR, hb⟩; obtain ⟨A', c', rfl⟩ := Kd.R_slice hR; have b2 := Lib.hid (below_step b1.out hb); have g2 := Lib.hid (heap_below g1.out hb); have C2 := Lib.hid (Kd.R_reads' hR).2.2; have c2' := Lib.hid (Kd.R_reads' hR).2.1; clear hb hR g1)
    | ((with_reducible go_at_call 19); refine (hof'.out _).mono ?_; rintro e w3 ⟨rfl, hb⟩; have b3 := Lib.hid (below_step b2.out hb); have g3 := Lib.hid (heap_below g2.out hb); have C3 := Lib.hid (Kd.C_below C2.out hb); clear hb g2 C2)
    | ((with_reducible go_at_call 18); refine (hrb.out _ b3.out).mono ?_; rintro e w4 ⟨v2, rfl, hR, hb⟩; obtain ⟨A'', c'', rfl⟩ := Kd.R_slice hR; have b4 := Lib.hid (below_step b3.out hb); have g4 := Lib.hid (heap_below g3.out hb); have C4 := Lib.hid (Kd.C_below C3.out hb); have E4 := Lib.hid (Kd.R_reads' hR).2.2; have e4' := Lib.hid (Kd.R_reads' hR).2.1; clear hb hR g3 C3)
    | ((with_reducible go_at_call 20); refine (hpa.out _ _ _ C4.out c2'.out).mono ?_; rintro e w5 ⟨A1, c1, A2, c2, rfl, k1, k2, k3, k4, hb⟩; have b5 := Lib.hid (below_step b4.out hb); have g5 := Lib.hid (heap_below g4.out hb); have C5 := Lib.hid (Kd.C_below C4.out hb); have E5 := Lib.hid (Kd.C_below E4.out hb); have K1 := Lib.hid k1; have K2 := Lib.hid k2; have K3 := Lib.hid k3; have K4 := Lib.hid k4; clear hb k1 k2 k3 k4 g4 C4 E4))
  have hb56 : Below w5.heap.size w5 (w5.alloc (.cells Z 27 (0, 0))) := (Below.refl _ _).alloc (Nat.le_refl _) _
  have hbs : Below w.heap.size w ((w5.alloc (.cells Z 27 (0, 0))).setRow w5.heap.size (G A1 c1 A2 c2)) := below_setRow (below_alloc b5.out _) b5.out.size _
  have g6 := Lib.hid ((setRow_other (w5.alloc (.cells Z 27 (0, 0))) w5.heap.size w.heap.size (G A1 c1 A2 c2) (Nat.ne_of_lt (lt_of_heap g5.out))).trans ((heap_skip w5 (.cells Z 27 (0, 0)) w.heap.size (Nat.ne_of_lt (lt_of_heap g5.out))).trans g5.out))
  have b6 := Lib.hid hbs
  have C6 := Lib.hid (C_setRow (cs := G A1 c1 A2 c2) (Kd.C_below C5.out hb56) (heap_alloc_last w5 (.cells Z 27 (0, 0))) hZn.out)
  have E6 := Lib.hid (C_setRow (cs := G A1 c1 A2 c2) (Kd.C_below E5.out hb56) (heap_alloc_last w5 (.cells Z 27 (0, 0))) hZn.out)
  have J1 := Lib.hid (C_setRow (cs := G A1 c1 A2 c2) (Kd.C_below K1.out hb56) (heap_alloc_last w5 (.cells Z 27 (0, 0))) hZn.out)
  have J3 := Lib.hid (C_setRow (cs := G A1 c1 A2 c2) (Kd.C_below K3.out hb56) (heap_alloc_last w5 (.cells Z 27 (0, 0))) hZn.out)
  clear hb56 hbs C5 E5 K1 K3 g5
  obtain ⟨gx, hgx⟩ : ∃ gx, gx = w5.heap.size := ⟨_, rfl⟩
  generalize (w5.alloc (.cells Z 27 (0, 0))).setRow w5.heap.size (G A1 c1 A2 c2) = w6 at *
  rw [← hgx] at k6 ⊢
  clear hgx
  refine start_ (n := 22) (S := fun w' => w'.heap[w.heap.size]? = some (.cells CS 27 (0, 0)) ∧ w'.heap[gx]? = some (.cells (G A1 c1 A2 c2) 27 (0, 0))) (ds := []) #[false, false, false, false, false, false, false, false, false, false, false, false, false, false, false, false, false, false, false, false, false, false] (by kernel_rfl) rfl rfl (by exact ⟨g6.out, k6.out⟩) (fun hHeld => ?_)
  refine pure_ (i := 0) (N := some 41) (v := ?_) (a' := ?_) #[true, false, false, false, false, false, false, false, false, false, false, false, false, false, false, false, false, false, false, false, false, false] rfl rfl (by kernel_rfl) (fun _ _ _ h => h) (Or.inl ⟨by rfl, ?_⟩) ?_ ?_
  rotate_left
  · intro w'
    go_simp
    with_reducible rfl
  rotate_left
  · simp only [Act.put, List.setIfInBounds_toArray, List.set_cons_zero, List.set_cons_succ, i64_w, i32_w]
    rfl
  refine pure_ (i := 1) (N := some 42) (v := ?_) (a' := ?_) #[true, true, false, false, false, false, false, false, false, false, false, false, false, false, false, false, false, false, false, false, false, false] rfl rfl (by kernel_rfl) (fun _ _ _ h => h) (Or.inl ⟨by rfl, ?_⟩) ?_ ?_
  rotate_left
  · intro w'
    go_simp
    with_reducible rfl
  rotate_left
  · simp only [Act.put, List.setIfInBounds_toArray, List.set_cons_zero, List.set_cons_succ, i64_w, i32_w]
    rfl
  refine pure_ (i := 2) (N := some 43) (v := ?_) (a' := ?_) #[true, true, true, false, false, false, false, false, false, false, false, false, false, false, false, false, false, false, false, false, false, false] rfl rfl (by kernel_rfl) (fun _ _ _ h => h) (Or.inl ⟨by rfl, ?_⟩) ?_ ?_
  rotate_left
  · intro w'
    go_simp
    with_reducible rfl
  rotate_left
  · simp only [Act.put, List.setIfInBounds_toArray, List.set_cons_zero, List.set_cons_succ, i64_w, i32_w]
    rfl
  refine pure_ (i := 3) (N := some 44) (v := ?_) (a' := ?_) #[true, true, true, true, false, false, false, false, false, false, false, false, false, false, false, false, false, false, false, false, false, false] rfl rfl (by kernel_rfl) (fun _ _ _ h => h) (Or.inl ⟨by rfl, ?_⟩) ?_ ?_
  rotate_left
  · intro w'
    go_simp
    with_reducible rfl
  rotate_left
  · simp only [Act.put, List.setIfInBounds_toArray, List.set_cons_zero, List.set_cons_succ, i64_w, i32_w]
    rfl
  refine pure_ (i := 4) (N := some 45) (v := ?_) (a' := ?_) #[true, true, true, true, true, false, false, false, false, false, false, false, false, false, false, false, false, false, false, false, false, false] rfl rfl (by kernel_rfl) (fun _ _ _ h => h) (Or.inl ⟨by rfl, ?_⟩) ?_ ?_
  rotate_left
  · intro w'
    go_simp
    with_reducible rfl
  rotate_left
  · simp only [Act.put, List.setIfInBounds_toArray, List.set_cons_zero, List.set_cons_succ, i64_w, i32_w]
    rfl
  refine one_ (i := 5) (N := some 46) #[true, true, true, true, true, true, false, false, false, false, false, false, false, false, false, false, false, false, false, false, false, false] rfl rfl (by kernel_rfl) (by decide) (fun K hK => ?_)
  refine goes_ Try.func21 (by kernel_rfl) rfl #[.slice A' T.length c', .slice A'' T.length c''] (by rfl) rfl rfl (by (try simp only [List.map_toArray, List.map_cons, List.map_nil]); first | done | rfl) ?_
  refine (hsm.out _ _ _ _ _ (Kd.C_below C6.out (below_drew (Below.refl _ _))) c2'.out (Kd.C_below E6.out (below_drew (Below.refl _ _))) e4'.out).mono ?_
  rintro e w7 ⟨rfl, hd⟩
  have hb := hd.below
  refine ⟨_, rfl, ?_⟩
  have b7 := Lib.hid (below_then b6.out b6.out.size ((below_drew (Below.refl w6.heap.size w6)).trans hb))
  have M1 := Lib.hid (Kd.C_below J1.out ((below_drew (Below.refl w6.heap.size w6)).trans hb))
  have M3 := Lib.hid (Kd.C_below J3.out ((below_drew (Below.refl w6.heap.size w6)).trans hb))
  refine hK.out _ _ ⟨heap_below hHeld.1 hb, heap_below hHeld.2 hb⟩ (fun hHeld => ?_)
  clear hb hd
  clear hK K
  refine norm_ (a' := ?_) ?_ ?_
  rotate_left
  · show Act.put _ (some 46) _ = _
    simp only [Act.put, List.setIfInBounds_toArray, List.set_cons_zero, List.set_cons_succ, i64_w, i32_w]
    rfl
  refine pure_ (i := 6) (N := some 47) (v := ?_) (a' := ?_) #[true, true, true, true, true, true, true, false, false, false, false, false, false, false, false, false, false, false, false, false, false, false] rfl rfl (by kernel_rfl) (fun _ _ _ h => h) (Or.inl ⟨by rfl, ?_⟩) ?_ ?_
  rotate_left
  · intro w'
    go_simp
    with_reducible rfl
  rotate_left
  · simp only [Act.put, List.setIfInBounds_toArray, List.set_cons_zero, List.set_cons_succ, i64_w, i32_w]
    rfl
  refine pure_ (i := 7) (N := some 48) (v := ?_) (a' := ?_) #[true, true, true, true, true, true, true, true, false, false, false, false, false, false, false, false, false, false, false, false, false, false] rfl rfl (by kernel_rfl) (fun _ _ _ h => h) (Or.inl ⟨by rfl, ?_⟩) ?_ ?_
  rotate_left
  · intro w'
    go_simp
    with_reducible rfl
  rotate_left
  · simp only [Act.put, List.setIfInBounds_toArray, List.set_cons_zero, List.set_cons_succ, i64_w, i32_w]
    rfl
  refine pure_ (i := 8) (N := some 49) (v := ?_) (a' := ?_) #[true, true, true, true, true, true, true, true, true, false, false, false, false, false, false, false, false, false, false, false, false, false] rfl rfl (by kernel_rfl) (fun _ _ _ h => h) (Or.inl ⟨by rfl, ?_⟩) ?_ ?_
  rotate_left
  · intro w'
    go_simp
    with_reducible rfl
  rotate_left
  · simp only [Act.put, List.setIfInBounds_toArray, List.set_cons_zero, List.set_cons_succ, i64_w, i32_w]
    rfl
  refine pure_ (i := 9) (N := some 50) (v := ?_) (a' := ?_) #[true, true, true, true, true, true, true, true, true, true, false, false, false, false, false, false, false, false, false, false, false, false] rfl rfl (by kernel_rfl) (fun _ _ _ h => h) (Or.inl ⟨by rfl, ?_⟩) ?_ ?_
  rotate_left
  · intro w'
    go_simp
    with_reducible rfl
  rotate_left
  · simp only [Act.put, List.setIfInBounds_toArray, List.set_cons_zero, List.set_cons_succ, i64_w, i32_w]
    rfl
  refine pure_ (i := 10) (N := some 51) (v := ?_) (a' := ?_) #[true, true, true, true, true, true, true, true, true, true, true, false, false, false, false, false, false, false, false, false, false, false] rfl rfl (by kernel_rfl) (fun _ _ _ h => h) (Or.inl ⟨by rfl, ?_⟩) ?_ ?_
  rotate_left
  · intro w'
    go_simp
    with_reducible rfl
  rotate_left
  · simp only [Act.put, List.setIfInBounds_toArray, List.set_cons_zero, List.set_cons_succ, i64_w, i32_w]
    rfl
  refine pure_ (i := 11) (N := some 52) (v := ?_) (a' := ?_) #[true, true, true, true, true, true, true, true, true, true, true, true, false, false, false, false, false, false, false, false, false, false] rfl rfl (by kernel_rfl) (fun _ _ _ h => h) (Or.inl ⟨by rfl, ?_⟩) ?_ ?_
  rotate_left
  · intro w'
    go_simp
    with_reducible rfl
  rotate_left
  · simp only [Act.put, List.setIfInBounds_toArray, List.set_cons_zero, List.set_cons_succ, i64_w, i32_w]
    rfl
  refine take_ (i := 12) (N := some 53) (v := ?_) (a' := ?_) #[true, true, true, true, true, true, true, true, true, true, true, true, true, false, false, false, false, false, false, false, false, false] rfl rfl (by kernel_rfl) (fun _ _ _ h => h) (Or.inl ⟨by rfl, ?_⟩) hHeld ?_ ?_
  rotate_left
  · intro w' hS
    refine (exec_load_row w' 27 _ (by rfl) gx (by rfl) 27 (G A1 c1 A2 c2) (0, 0) _ hS.2 Try.underlying27 rfl (hGs.out _ _ _ _)).trans ?_; show Result.ok (Next.value (Value.agg (G A1 c1 A2 c2))) w' = _; with_reducible rfl
  rotate_left
  · simp only [Act.put, List.setIfInBounds_toArray, List.set_cons_zero, List.set_cons_succ, i64_w, i32_w]
    rfl
  refine take_ (i := 14) (N := some 55) (v := ?_) (a' := ?_) #[true, true, true, true, true, true, true, true, true, true, true, true, true, false, true, false, false, false, false, false, false, false] rfl rfl (by kernel_rfl) (fun _ _ _ h => h) (Or.inl ⟨by rfl, ?_⟩) hHeld ?_ ?_
  rotate_left
  · intro w' hS
    refine (exec_load_row w' 27 _ (by rfl) w.heap.size (by rfl) 27 CS (0, 0) _ hS.1 Try.underlying27 rfl hCs.out).trans ?_; show Result.ok (Next.value (Value.agg CS)) w' = _; with_reducible rfl
  rotate_left
  · simp only [Act.put, List.setIfInBounds_toArray, List.set_cons_zero, List.set_cons_succ, i64_w, i32_w]
    rfl
  refine one_ (i := 13) (N := some 54) #[true, true, true, true, true, true, true, true, true, true, true, true, true, true, true, false, false, false, false, false, false, false] rfl rfl (by kernel_rfl) (by decide) (fun K hK => ?_)
  refine goes_ Try.func19 (by kernel_rfl) rfl #[.agg (G A1 c1 A2 c2)] (by rfl) rfl rfl (by (try simp only [List.map_toArray, List.map_cons, List.map_nil]); first | done | rfl) ?_
  refine (hofG.out _ _ _ _ _).mono ?_
  rintro e w8 ⟨rfl, hb⟩
  refine ⟨_, rfl, ?_⟩
  have b8 := Lib.hid (below_then b7.out b7.out.size hb)
  have N1 := Lib.hid (Kd.C_below M1.out hb)
  have N3 := Lib.hid (Kd.C_below M3.out hb)
  refine hK.out _ _ ⟨heap_below hHeld.1 hb, heap_below hHeld.2 hb⟩ (fun hHeld => ?_)
  clear hb
  clear hK K
  refine norm_ (a' := ?_) ?_ ?_
  rotate_left
  · show Act.put _ (some 54) _ = _
    simp only [Act.put, List.setIfInBounds_toArray, List.set_cons_zero, List.set_cons_succ, i64_w, i32_w]
    rfl
  refine one_ (i := 15) (N := some 56) #[true, true, true, true, true, true, true, true, true, true, true, true, true, true, true, true, false, false, false, false, false, false] rfl rfl (by kernel_rfl) (by decide) (fun K hK => ?_)
  refine goes_ Try.func19 (by kernel_rfl) rfl #[.agg CS] (by rfl) rfl rfl (by (try simp only [List.map_toArray, List.map_cons, List.map_nil]); first | done | rfl) ?_
  refine (hof'.out _).mono ?_
  rintro e w9 ⟨rfl, hb⟩
  refine ⟨_, rfl, ?_⟩
  have b9 := Lib.hid (below_then b8.out b8.out.size hb)
  have O1 := Lib.hid (Kd.C_below N1.out hb)
  have O3 := Lib.hid (Kd.C_below N3.out hb)
  refine hK.out _ _ ⟨heap_below hHeld.1 hb, heap_below hHeld.2 hb⟩ (fun hHeld => ?_)
  clear hb
  clear hK K
  refine norm_ (a' := ?_) ?_ ?_
  rotate_left
  · show Act.put _ (some 56) _ = _
    simp only [Act.put, List.setIfInBounds_toArray, List.set_cons_zero, List.set_cons_succ, i64_w, i32_w]
    rfl
  refine one_ (i := 16) (N := some 57) #[true, true, true, true, true, true, true, true, true, true, true, true, true, true, true, true, true, false, false, false, false, false] rfl rfl (by kernel_rfl) (by decide) (fun K hK => ?_)
  refine goes_ Try.func22 (by kernel_rfl) rfl #[.agg (G A1 c1 A2 c2), .agg CS] (by rfl) rfl rfl (by (try simp only [List.map_toArray, List.map_cons, List.map_nil]); first | done | rfl) ?_
  refine (hsc.out _ b9.out _ _ _ _ O1.out K2.out O3.out K4.out).mono ?_
  rintro e w10 ⟨rfl, hb⟩
  refine ⟨_, rfl, ?_⟩
  have b10 := Lib.hid (below_then b9.out b9.out.size hb)
  refine hK.out _ _ ⟨heap_below hHeld.1 hb, heap_below hHeld.2 hb⟩ (fun hHeld => ?_)
  clear hb
  clear hK K
  refine norm_ (a' := ?_) ?_ ?_
  rotate_left
  · show Act.put _ (some 57) _ = _
    simp only [Act.put, List.setIfInBounds_toArray, List.set_cons_zero, List.set_cons_succ, i64_w, i32_w]
    rfl
  refine pure_ (i := 17) (N := some 58) (v := ?_) (a' := ?_) #[true, true, true, true, true, true, true, true, true, true, true, true, true, true, true, true, true, true, false, false, false, false] rfl rfl (by kernel_rfl) (fun _ _ _ h => h) (Or.inl ⟨by rfl, ?_⟩) ?_ ?_
  rotate_left
  · intro w'
    go_simp
    with_reducible rfl
  rotate_left
  · simp only [Act.put, List.setIfInBounds_toArray, List.set_cons_zero, List.set_cons_succ, i64_w, i32_w]
    rfl
  refine pure_ (i := 18) (N := some 59) (v := ?_) (a' := ?_) #[true, true, true, true, true, true, true, true, true, true, true, true, true, true, true, true, true, true, true, false, false, false] rfl rfl (by kernel_rfl) (fun _ _ _ h => h) (Or.inl ⟨by rfl, ?_⟩) ?_ ?_
  rotate_left
  · intro w'
    go_simp
    with_reducible rfl
  rotate_left
  · simp only [Act.put, List.setIfInBounds_toArray, List.set_cons_zero, List.set_cons_succ, i64_w, i32_w]
    rfl
  refine one_ (i := 19) (N := some 60) #[true, true, true, true, true, true, true, true, true, true, true, true, true, true, true, true, true, true, true, true, false, false] rfl rfl (by kernel_rfl) (by decide) (fun K hK => ?_)
  refine goes_ Try.func15 (by kernel_rfl) rfl #[] (by rfl) rfl rfl (by (try simp only [List.map_toArray, List.map_cons, List.map_nil]); first | done | rfl) ?_
  refine (hawake'.out _).mono ?_
  rintro e w11 ⟨rfl, hb⟩
  refine ⟨_, rfl, ?_⟩
  have b11 := Lib.hid (below_then b10.out b10.out.size hb)
  refine hK.out _ _ ⟨heap_below hHeld.1 hb, heap_below hHeld.2 hb⟩ (fun hHeld => ?_)
  clear hb
  clear hK K
  refine norm_ (a' := ?_) ?_ ?_
  rotate_left
  · show Act.put _ (some 60) _ = _
    simp only [Act.put, List.setIfInBounds_toArray, List.set_cons_zero, List.set_cons_succ, i64_w, i32_w]
    rfl
  refine pure_ (i := 20) (N := some 61) (v := ?_) (a' := ?_) #[true, true, true, true, true, true, true, true, true, true, true, true, true, true, true, true, true, true, true, true, true, false] rfl rfl (by kernel_rfl) (fun _ _ _ h => h) (Or.inl ⟨by rfl, ?_⟩) ?_ ?_
  rotate_left
  · intro w'
    go_simp
    with_reducible rfl
  rotate_left
  · simp only [Act.put, List.setIfInBounds_toArray, List.set_cons_zero, List.set_cons_succ, i64_w, i32_w]
    rfl
  refine pure_ (i := 21) (N := some 2) (v := ?_) (a' := ?_) #[true, true, true, true, true, true, true, true, true, true, true, true, true, true, true, true, true, true, true, true, true, true] rfl rfl (by kernel_rfl) (fun _ _ _ h => h) (Or.inl ⟨by rfl, ?_⟩) ?_ ?_
  rotate_left
  · intro w'
    go_simp
    with_reducible rfl
  rotate_left
  · simp only [Act.put, List.setIfInBounds_toArray, List.set_cons_zero, List.set_cons_succ, i64_w, i32_w]
    rfl
  refine done_ (by kernel_rfl) ?_
  go_wp2_with fail
  go_ret
  exact ⟨rfl, b11.out⟩
theorem CommandBytes_walk (w : World) (x : Opz.CmdT) (cs : Array Value) (hK : Opz.CmdK w x cs.toList) (hw : Opz.CmdWf x) :
    Calls Try.prog 4 #[.agg cs] w fun e w' => e = .returned (.bool true) ∧ Below w.heap.size w w' := by
  obtain ⟨a0, a1, a2, a3, P, D⟩ := x
  obtain ⟨A, ca, B, cb, hcs, hA, hca, hB, hcb⟩ := hK
  obtain rfl : cs = ccs a0 a1 a2 a3 A P.length ca B D.length cb := Array.toList_inj.1 hcs
  exact cbytes_law a0 a1 a2 a3 A ca P B cb D w hA hca hB hcb (byt_wf hw.2.1.2) (byt_wf hw.2.2.2)
end Go.Proofs.Ytiogdomjmjiahaa.Own
