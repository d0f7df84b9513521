/- CommandParses, walked. -/
import Derived.Test.YtiogdomjmjiahaaCmY
namespace Go.Proofs.Ytiogdomjmjiahaa.Own
open Go.RowKit Go.Proofs.Ytiogdomjmjiahaa.Arr Go.Proofs.Ytiogdomjmjiahaa.QA Go.Proofs.Ytiogdomjmjiahaa.QB Go.Proofs.YtiogdomjmjiahaaW.PrintWords Go.Proofs.YtiogdomjmjiahaaW.PrintLast Go.Proofs.YtiogdomjmjiahaaW.PrintMore
set_option linter.unusedVariables false
set_option linter.unusedSimpArgs false
attribute [-go_sem] Instr.build
theorem builtW0 : Try.prog.built 34 (#[] : Array (Nat × Value)).toList = some (ccs 0 0 0 0 none 0 0 none 0 0) := by kernel_rfl
theorem C_none (w : World) : Kd.C (Kd.int .u8) w none ([] : List Int).length [] := Kd.C_nil _ _
set_option maxHeartbeats 4000000 in
set_option maxRecDepth 100000 in
theorem parses_big (A : Option Addr) (c : Nat) (l : List Int) (w : World) (h : 9000 < l.length) : Calls Try.prog 5 #[.slice A l.length c] w (Says true w) := by
  have h' : (9000 : Int) < (l.length : Int) := by omega
  have hawake' := Lib.hid (fun w => lawAwake w)
  clear h
  go_enter Try.func5, Try.ntmps5
  go_wp2_with (go_at_call 15; refine (hawake'.out _).mono ?_; rintro e w2 ⟨rfl, hb⟩; have b2 := Lib.hid hb; clear hb)
  go_ret
  exact ⟨rfl, b2.out⟩
set_option maxHeartbeats 8000000 in
set_option maxRecDepth 100000 in
theorem parses_no (A : Option Addr) (c : Nat) (l : List Int) (w : World) (hC : Kd.C (Kd.int .u8) w A l.length l) (hc : l.length ≤ c) (hlen : l.length ≤ 9000) (hb : ∀ x ∈ l, byt x) (hp : parseF l = none) :
    Calls Try.prog 5 #[.slice A l.length c] w (Says true w) := by
  have h' : ¬ (9000 : Int) < (l.length : Int) := by omega
  have hawake' := Lib.hid (fun w => lawAwake w)
  have hparse : ∀ w1, Below w.heap.size w w1 → Calls Try.prog 20 #[.slice A l.length c] w1 (ParseNo w1) := fun w1 h1 => by
    have := parse_any A c l w1 (Kd.C_below hC h1) hc (by omega) hb
    rw [hp] at this
    exact this
  have htext := Lib.hid (fun (w1 : World) (h1 : Below w.heap.size w w1) => text_any A c l w1 (Kd.C_below hC h1) hc (by omega) hb)
  rw [show textB l = false by unfold textB; rw [hp]; rfl] at htext
  have hof : ∀ w1, Calls Try.prog 19 #[.agg (ccs 0 0 0 0 none 0 0 none 0 0)] w1 fun e w' => e = .returned (.agg (ccs 0 0 0 0 none 0 0 none 0 0)) ∧ Below w1.heap.size w1 w' := fun w1 => of_any 0 0 0 0 none 0 0 none 0 0 w1
  have hsame : ∀ w1, Calls Try.prog 22 #[.agg (ccs 0 0 0 0 none 0 0 none 0 0), .agg (ccs 0 0 0 0 none 0 0 none 0 0)] w1 fun e w' => e = .returned (.bool true) ∧ Below w1.heap.size w1 w' := fun w1 =>
    sameCmd_any 0 0 0 0 [] [] (by simp) (by simp) w1 none 0 none 0 none 0 none 0 (C_none _) (by simp) (C_none _) (by simp) (C_none _) (by simp) (C_none _) (by simp)
  have hbw : ∀ W : World, (Instr.build 34 #[]).run Try.prog W = .ok (.agg (ccs 0 0 0 0 none 0 0 none 0 0)) W := fun W => run_build W _ _ _ builtW0
  obtain ⟨hz, -⟩ := zero_of_info (P := Try.prog) infoC
  have hparse2 : ∀ w1, Below w.heap.size w w1 → Calls Try.prog 20 #[.slice A l.length c] w1 fun e w' => e = .returned (.tuple #[.agg (ccs 0 0 0 0 none 0 0 none 0 0), .int .i64 1]) ∧ Below w1.heap.size w1 w' := hparse
  obtain ⟨Z, hZ⟩ : ∃ Z : Array Value, Z = ccs 0 0 0 0 none 0 0 none 0 0 := ⟨_, rfl⟩
  rw [← hZ] at hz hparse2
  obtain ⟨q0, q1, q2, q3, q4, q5, hq⟩ : ∃ q0 q1 q2 q3 q4 q5 : Value, (#[q0, q1, q2, q3, q4, q5] : Array Value) = ccs 0 0 0 0 none 0 0 none 0 0 := ⟨_, _, _, _, _, _, rfl⟩
  rw [← hq] at hof hsame hbw
  have hZq := Lib.hid (hZ.trans hq.symm)
  have hZs := Lib.hid (show (Try.prog.info? 27).map (·.size) = some Z.size by rw [hZ]; exact sizeC)
  have hZo := Lib.hid (show Z.all (·.oneCell') = true by rw [hZ]; exact ccs_one _ _ _ _ _ _ _ _ _ _)
  have hof' := Lib.hid hof
  have hsame' := Lib.hid hsame
  have hparse' := Lib.hid hparse2
  clear hZ hq hof hsame hparse hparse2 hC hc hlen hb hp
  go_enter Try.func5, Try.ntmps5
  go_wp2_with (first
    | (with_reducible refine wpList_store_row rfl 27 _ _ rfl w1.heap.size Z rfl rfl 27 Z (heap_alloc_last _ _) hZs.out rfl hZo.out ?_; have g1 := Lib.hid (setRow_heap (w1.alloc (.cells Z 27 (0, 0))) w1.heap.size Z Z 27 (0, 0) (heap_alloc_last _ _)); have x0 := (blk_cell g1.out 0).trans (show Z[0]? = some q0 by simp [hZq.out]); have x1 := (blk_cell g1.out 1).trans (show Z[1]? = some q1 by simp [hZq.out]); have x2 := (blk_cell g1.out 2).trans (show Z[2]? = some q2 by simp [hZq.out]); have x3 := (blk_cell g1.out 3).trans (show Z[3]? = some q3 by simp [hZq.out]); have x4 := (blk_cell g1.out 4).trans (show Z[4]? = some q4 by simp [hZq.out]); have x5 := (blk_cell g1.out 5).trans (show Z[5]? = some q5 by simp [hZq.out]))
    | ((with_reducible go_at_call 20); refine (hparse'.out _ (Below.refl _ _)).mono ?_; rintro e w1 ⟨rfl, hb⟩; have b1 := Lib.hid hb; clear hb)
    | ((with_reducible go_at_call 19); refine (hof'.out _).mono ?_; clear x0 x1 x2 x3 x4 x5; rintro e w2 ⟨rfl, hb⟩; have b2 := Lib.hid (below_then (below_setRow (below_alloc b1.out _) b1.out.size _) (by simp only [setRow_size, World.size_alloc]; exact Nat.le_succ_of_le b1.out.size) hb); clear hb)
    | ((with_reducible go_at_call 22); refine (hsame'.out _).mono ?_; rintro e w3 ⟨rfl, hb⟩; have b3 := Lib.hid (below_then b2.out b2.out.size hb); clear hb)
    | ((with_reducible go_at_call 23); refine (htext.out _ b3.out).mono ?_; rintro e w4 ⟨rfl, hb⟩; have b4 := Lib.hid (below_then b3.out b3.out.size hb); clear hb)
    | ((with_reducible go_at_call 15); refine (hawake'.out _).mono ?_; rintro e w5 ⟨rfl, hb⟩; have b5 := Lib.hid (below_then b4.out b4.out.size hb); clear hb))
  go_ret
  exact ⟨rfl, b5.out⟩
set_option maxHeartbeats 8000000 in
set_option maxRecDepth 100000 in
theorem parses_yes (A : Option Addr) (c : Nat) (l : List Int) (w : World) (hC : Kd.C (Kd.int .u8) w A l.length l) (hc : l.length ≤ c) (hlen : l.length ≤ 9000) (hb : ∀ x ∈ l, byt x) (ns : Int × Int × Int × Int) (P D : List Int) (hp : parseF l = some (ns, P, D)) :
    Calls Try.prog 5 #[.slice A l.length c] w (Says true w) := by
  have h' : ¬ (9000 : Int) < (l.length : Int) := by omega
  have hawake' := Lib.hid (fun w => lawAwake w)
  obtain ⟨hfit, htl⟩ := parseF_some l hb ns P D hp
  have hparse : ∀ w1, Below w.heap.size w w1 → Calls Try.prog 20 #[.slice A l.length c] w1 (ParseYes ns P D w1) := fun w1 h1 => by
    have := parse_any A c l w1 (Kd.C_below hC h1) hc (by omega) hb
    rw [hp] at this
    exact this
  have htext := Lib.hid (fun (w1 : World) (h1 : Below w.heap.size w w1) => text_any A c l w1 (Kd.C_below hC h1) hc (by omega) hb)
  rw [show textB l = true by unfold textB; rw [hp]; rfl] at htext
  have hsame := Lib.hid (fun (w1 : World) (h1 : Below w.heap.size w w1) (A' : Option Addr) (c' : Nat) (hC' : Kd.C (Kd.int .u8) w1 A' l.length l) (hc' : l.length ≤ c') => show Calls Try.prog 21 #[.slice A' l.length c', .slice A l.length c] w1 (fun e w' => e = .returned (.bool true) ∧ Drawn0 w1 w') by
    have := same_any l l (by omega) w1 A' c' A c hC' hc' (Kd.C_below hC h1) hc
    rw [decide_eq_true rfl] at this
    exact this)
  have hbytes := Lib.hid (fun (w1 : World) (A1 : Option Addr) (c1 : Nat) (A2 : Option Addr) (c2 : Nat) (h1 : Kd.C (Kd.int .u8) w1 A1 P.length P) (h2 : P.length ≤ c1) (h3 : Kd.C (Kd.int .u8) w1 A2 D.length D) (h4 : D.length ≤ c2) => show Calls Try.prog 18 #[.agg (ccs ns.1 ns.2.1 ns.2.2.1 ns.2.2.2 A1 P.length c1 A2 D.length c2)] w1 (fun e w' => ∃ v0_ : Value, e = .returned (.tuple #[v0_, .bool true]) ∧ Kd.R (Kd.int .u8) 5 w' w1.heap.size (fun _ => True) v0_ l ∧ Below w1.heap.size w1 w') by
    have := nepentheref28_Bytes.calls 21 ns.1 ns.2.1 ns.2.2.1 ns.2.2.2 A1 c1 P A2 c2 D _ _ w1 h1 h2 h3 h4 (refBytes_eq ns.1 ns.2.1 ns.2.2.1 ns.2.2.2 P D 0)
    rw [if_pos hfit, decide_eq_true hfit, htl] at this
    exact this)
  have hof := fun (A1 : Option Addr) (c1 : Nat) (A2 : Option Addr) (c2 : Nat) => of_any ns.1 ns.2.1 ns.2.2.1 ns.2.2.2 A1 P.length c1 A2 D.length c2
  obtain ⟨hz, -⟩ := zero_of_info (P := Try.prog) infoC
  obtain ⟨Z, hZ⟩ : ∃ Z : Array Value, Z = ccs 0 0 0 0 none 0 0 none 0 0 := ⟨_, rfl⟩
  rw [← hZ] at hz
  obtain ⟨G, hG⟩ : ∃ G : Option Addr → Nat → Option Addr → Nat → Array Value, G = fun A1 c1 A2 c2 => ccs ns.1 ns.2.1 ns.2.2.1 ns.2.2.2 A1 P.length c1 A2 D.length c2 := ⟨_, rfl⟩
  have hparse' := Lib.hid (fun (w1 : World) (h1 : Below w.heap.size w w1) => show Calls Try.prog 20 #[.slice A l.length c] w1 (fun e w' => ∃ A1 c1 A2 c2, e = .returned (.tuple #[.agg (G A1 c1 A2 c2), .int .i64 0]) ∧ Kd.C (Kd.int .u8) w' A1 P.length P ∧ P.length ≤ c1 ∧ Kd.C (Kd.int .u8) w' A2 D.length D ∧ D.length ≤ c2 ∧ Below w1.heap.size w1 w') by rw [hG]; exact hparse w1 h1)
  have hbytes' := Lib.hid (fun (w1 : World) (A1 : Option Addr) (c1 : Nat) (A2 : Option Addr) (c2 : Nat) (h1 : Kd.C (Kd.int .u8) w1 A1 P.length P) (h2 : P.length ≤ c1) (h3 : Kd.C (Kd.int .u8) w1 A2 D.length D) (h4 : D.length ≤ c2) => show Calls Try.prog 18 #[.agg (G A1 c1 A2 c2)] w1 (fun e w' => ∃ v0_ : Value, e = .returned (.tuple #[v0_, .bool true]) ∧ Kd.R (Kd.int .u8) 5 w' w1.heap.size (fun _ => True) v0_ l ∧ Below w1.heap.size w1 w') by rw [hG]; exact hbytes.out w1 A1 c1 A2 c2 h1 h2 h3 h4)
  have hof' := Lib.hid (fun (A1 : Option Addr) (c1 : Nat) (A2 : Option Addr) (c2 : Nat) (w1 : World) => show Calls Try.prog 19 #[.agg (G A1 c1 A2 c2)] w1 (fun e w' => e = .returned (.agg (G A1 c1 A2 c2)) ∧ Below w1.heap.size w1 w') by rw [hG]; exact hof A1 c1 A2 c2 w1)
  have hGs := Lib.hid (show ∀ A1 c1 A2 c2, (Try.prog.info? 27).map (·.size) = some (G A1 c1 A2 c2).size by rw [hG]; intros; exact sizeC)
  have hGo := Lib.hid (show ∀ A1 c1 A2 c2, (G A1 c1 A2 c2).all (·.oneCell') = true by rw [hG]; intros; exact ccs_one _ _ _ _ _ _ _ _ _ _)
  have hGZ := Lib.hid (show ∀ A1 c1 A2 c2, Z.size = (G A1 c1 A2 c2).size by rw [hG, hZ]; intros; rfl)
  have hZn := Lib.hid (show ∀ v ∈ Z, ∀ x, v ≠ .int .u8 x by rw [hZ]; exact ccs_not _ _ _ _ _ _ _ _ _ _)
  clear hZ hG hof hbytes hparse hC hc hlen hb hp hfit htl
  go_enter Try.func5, Try.ntmps5
  go_wp2_with (first
    | (with_reducible refine wpList_store_row rfl 27 _ _ rfl w1.heap.size (G A1 c1 A2 c2) rfl rfl 27 Z (heap_alloc_last _ _) (hGs.out _ _ _ _) (hGZ.out _ _ _ _) (hGo.out _ _ _ _) ?_; have g1 := Lib.hid (setRow_heap (w1.alloc (.cells Z 27 (0, 0))) w1.heap.size Z (G A1 c1 A2 c2) 27 (0, 0) (heap_alloc_last _ _)))
    | (with_reducible refine wpList_load_row rfl 27 _ rfl w1.heap.size rfl 27 (G A1 c1 A2 c2) (0, 0) _ g1.out Try.underlying27 rfl (hGs.out _ _ _ _) ?_)
    | ((with_reducible go_at_call 20); refine (hparse'.out _ (Below.refl _ _)).mono ?_; rintro e w1 ⟨A1, c1, A2, c2, rfl, k1, k2, k3, k4, hb⟩; have b1 := Lib.hid hb; have K1 := Lib.hid k1; have K2 := Lib.hid k2; have K3 := Lib.hid k3; have K4 := Lib.hid k4; clear hb k1 k2 k3 k4)
    | ((with_reducible go_at_call 19); refine (hof'.out _ _ _ _ _).mono ?_; rintro e w2 ⟨rfl, hb⟩; have b2 := Lib.hid (below_then (below_setRow (below_alloc b1.out _) b1.out.size _) (by simp only [setRow_size, World.size_alloc]; exact Nat.le_succ_of_le b1.out.size) hb); have L1 := Lib.hid (Kd.C_below (C_setRow (cs := G A1 c1 A2 c2) (Kd.C_below K1.out ((Below.refl _ _).alloc (Nat.le_refl _) _)) (heap_alloc_last w1 (.cells Z 27 (0, 0))) hZn.out) hb); have L3 := Lib.hid (Kd.C_below (C_setRow (cs := G A1 c1 A2 c2) (Kd.C_below K3.out ((Below.refl _ _).alloc (Nat.le_refl _) _)) (heap_alloc_last w1 (.cells Z 27 (0, 0))) hZn.out) hb); clear hb)
    | ((with_reducible go_at_call 18); refine (hbytes'.out _ _ _ _ _ L1.out K2.out L3.out K4.out).mono ?_; rintro e w3 ⟨v, rfl, hR, hb⟩; obtain ⟨A', c', rfl⟩ := Kd.R_slice hR; have b3 := Lib.hid (below_then b2.out b2.out.size hb); have M1 := Lib.hid (Kd.R_reads' hR); clear hb hR)
    | ((with_reducible go_at_call 21); refine (hsame.out _ b3.out _ _ M1.out.2.2 M1.out.2.1).mono ?_; rintro e w4 ⟨rfl, hd⟩; have b4 := Lib.hid (below_then b3.out b3.out.size hd.below); clear hd)
    | ((with_reducible go_at_call 23); refine (htext.out _ b4.out).mono ?_; rintro e w5 ⟨rfl, hb⟩; have b5 := Lib.hid (below_then b4.out b4.out.size hb); clear hb)
    | ((with_reducible go_at_call 15); refine (hawake'.out _).mono ?_; rintro e w6 ⟨rfl, hb⟩; have b6 := Lib.hid (below_then b5.out b5.out.size hb); clear hb))
  go_ret
  exact ⟨rfl, b6.out⟩
theorem parses_law (A : Option Addr) (c : Nat) (l : List Int) (w : World) (hC : Kd.C (Kd.int .u8) w A l.length l) (hc : l.length ≤ c) (hb : ∀ x ∈ l, byt x) :
    Calls Try.prog 5 #[.slice A l.length c] w (Says true w) := by
  by_cases h : 9000 < l.length
  · exact parses_big A c l w h
  · cases hp : parseF l with
    | none => exact parses_no A c l w hC hc (by omega) hb hp
    | some r =>
      obtain ⟨ns, P, D⟩ := r
      exact parses_yes A c l w hC hc (by omega) hb ns P D hp
theorem byt_wf {l : List Int} (h : ∀ x ∈ l, (Lit.int .u8 x).wf = true) : ∀ x ∈ l, byt x := fun x hx => by
  have := h x hx
  simp [Lit.wf, IntKind.min, IntKind.max, IntKind.signed, IntKind.bits] at this
  exact ⟨by omega, by omega⟩
theorem CommandParses_walk (w : World) (A0 : Option Addr) (c0 : Nat) (x0 : List Int) (b0 : x0.length ≤ c0) (C0 : Kd.C (Kd.int .u8) w A0 x0.length x0) (w0 : x0.length ≤ 140737488351232 ∧ ∀ x ∈ x0, (Lit.int .u8 x).wf = true) :
    Calls Try.prog 5 #[.slice A0 x0.length c0] w fun e w' => e = .returned (.bool true) ∧ Below w.heap.size w w' :=
  parses_law A0 c0 x0 w C0 b0 (byt_wf w0.2)
end Go.Proofs.Ytiogdomjmjiahaa.Own
