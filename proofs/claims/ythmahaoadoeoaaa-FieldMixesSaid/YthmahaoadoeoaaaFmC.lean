/- FieldMixes: any column, mixed and unmixed; each undoes the other. No condition. -/
import Derived.Test.YthmahaoadoeoaaaFmB
import Derived.Test.YthmahaoadoeoaaaOpz
namespace Go.Proofs.Ythmahaoadoeoaaa.Own
open Go.RowKit Go.Proofs.Ythmahaoadoeoaaa.Arr Go.Proofs.Ythmahaoadoeoaaa.Core Go.Proofs.Ythmahaoadoeoaaa.Pure Go.Proofs.Ythmahaoadoeoaaa.PFieldProducts Go.Proofs.YthmahaoadoeoaaaW.PrintWords Go.Proofs.YthmahaoadoeoaaaW.PrintLast Go.Proofs.YthmahaoadoeoaaaW.PrintMore
set_option linter.unusedVariables false
set_option linter.unusedSimpArgs false
attribute [-go_sem] Instr.build
theorem zero_mul8 (c : BitVec 8) : mul P8 0#8 c = 0#8 := by rw [mul_comm, mul, muls_zero_right]
theorem comb (k0 k1 k2 k3 a0 a1 a2 a3 c : BitVec 8) : mul P8 k0 (mul P8 a0 c) ^^^ mul P8 k1 (mul P8 a1 c) ^^^ mul P8 k2 (mul P8 a2 c) ^^^ mul P8 k3 (mul P8 a3 c) = mul P8 (mul P8 k0 a0 ^^^ mul P8 k1 a1 ^^^ mul P8 k2 a2 ^^^ mul P8 k3 a3) c := by
  simp only [mul_left_xor, mul_assoc]
theorem inv_row (k0 k1 k2 k3 a0 a1 a2 a3 : BitVec 8)
    (h0 : mul P8 k0 a0 ^^^ mul P8 k1 a3 ^^^ mul P8 k2 a2 ^^^ mul P8 k3 a1 = 1#8) (h1 : mul P8 k0 a1 ^^^ mul P8 k1 a0 ^^^ mul P8 k2 a3 ^^^ mul P8 k3 a2 = 0#8)
    (h2 : mul P8 k0 a2 ^^^ mul P8 k1 a1 ^^^ mul P8 k2 a0 ^^^ mul P8 k3 a3 = 0#8) (h3 : mul P8 k0 a3 ^^^ mul P8 k1 a2 ^^^ mul P8 k2 a1 ^^^ mul P8 k3 a0 = 0#8) (c0 c1 c2 c3 : BitVec 8) :
    mul P8 k0 (mul P8 a0 c0 ^^^ mul P8 a1 c1 ^^^ mul P8 a2 c2 ^^^ mul P8 a3 c3) ^^^ mul P8 k1 (mul P8 a0 c1 ^^^ mul P8 a1 c2 ^^^ mul P8 a2 c3 ^^^ mul P8 a3 c0) ^^^ mul P8 k2 (mul P8 a0 c2 ^^^ mul P8 a1 c3 ^^^ mul P8 a2 c0 ^^^ mul P8 a3 c1) ^^^ mul P8 k3 (mul P8 a0 c3 ^^^ mul P8 a1 c0 ^^^ mul P8 a2 c1 ^^^ mul P8 a3 c2) = c0 := by
  have e0 := comb k0 k1 k2 k3 a0 a3 a2 a1 c0
  have e1 := comb k0 k1 k2 k3 a1 a0 a3 a2 c1
  have e2 := comb k0 k1 k2 k3 a2 a1 a0 a3 c2
  have e3 := comb k0 k1 k2 k3 a3 a2 a1 a0 c3
  rw [h0, one_mul] at e0
  rw [h1, zero_mul8] at e1
  rw [h2, zero_mul8] at e2
  rw [h3, zero_mul8] at e3
  have e : c0 = (c0 ^^^ 0#8) ^^^ (0#8 ^^^ 0#8) := by simp
  conv => rhs; rw [e]
  rw [← e1]
  conv => rhs; lhs; lhs; rw [← e0]
  conv => rhs; rhs; rw [show (mul P8 k0 (mul P8 a1 c1) ^^^ mul P8 k1 (mul P8 a0 c1) ^^^ mul P8 k2 (mul P8 a3 c1) ^^^ mul P8 k3 (mul P8 a2 c1)) = 0#8 from e1]
  conv => rhs; rhs; lhs; rw [← e2]
  conv => rhs; rhs; rhs; rw [← e3]
  simp only [mul_right_xor]
  ac_rfl
theorem turnB_four (c0 c1 c2 c3 m0 m1 m2 m3 : BitVec 8) : turnB [c0, c1, c2, c3] [m0, m1, m2, m3] = [mul P8 m0 c0 ^^^ mul P8 m1 c1 ^^^ mul P8 m2 c2 ^^^ mul P8 m3 c3, mul P8 m0 c1 ^^^ mul P8 m1 c2 ^^^ mul P8 m2 c3 ^^^ mul P8 m3 c0, mul P8 m0 c2 ^^^ mul P8 m1 c3 ^^^ mul P8 m2 c0 ^^^ mul P8 m3 c1, mul P8 m0 c3 ^^^ mul P8 m1 c0 ^^^ mul P8 m2 c1 ^^^ mul P8 m3 c2] := by
  simp [turnB, outB, rowB, List.range, List.range.loop]
theorem unmix_mix (c : Col) (hc : c.length = 4) : turnB (turnB c mixM) unM = c := by
  match c, hc with
  | [c0, c1, c2, c3], _ =>
    have h := inv_row 14#8 11#8 13#8 9#8 2#8 3#8 1#8 1#8 (by decide +kernel) (by decide +kernel) (by decide +kernel) (by decide +kernel)
    unfold mixM unM
    rw [turnB_four, turnB_four, h c0 c1 c2 c3, h c1 c2 c3 c0, h c2 c3 c0 c1, h c3 c0 c1 c2]
theorem mix_unmix (c : Col) (hc : c.length = 4) : turnB (turnB c unM) mixM = c := by
  match c, hc with
  | [c0, c1, c2, c3], _ =>
    have h := inv_row 2#8 3#8 1#8 1#8 14#8 11#8 13#8 9#8 (by decide +kernel) (by decide +kernel) (by decide +kernel) (by decide +kernel)
    unfold mixM unM
    rw [turnB_four, turnB_four, h c0 c1 c2 c3, h c1 c2 c3 c0, h c2 c3 c0 c1, h c3 c0 c1 c2]
section
variable {P : Program} {a : Act} {op : Oper}
theorem exec_load_row (w : World) (ty : TypeId) (x : Operand) (ho : op.op = .load ty x) (g : Nat) (hx : a.eval x = .pointer (some ⟨g, 0, none⟩)) (t : TypeId) (cs : Array Value) (fr : Nat × Nat) (d : TypeDesc) (hg : w.heap[g]? = some (.cells cs t fr))
    (hu : P.underlying ty = some d) (hd : (match d with | .struct _ | .array _ _ => true | _ => false) = true) (hi : (P.info? ty).map (·.size) = some cs.size) : (execOp a.eval op).run P w = .ok (.value (.agg cs)) w := by
  unfold execOp
  simp only [ho, hx, Instr.loadAt, Instr.sureAddr, Sem.run_bind, Sem.run_pure, Result.andThen_ok, run_loadVar_row w g t ty cs fr d hg hu hd hi]
end
theorem eq47 (l : List Int) (h : l.length = 4) (W : World) : (binOp .eql 47 (.agg (ints .u8 l)) (.agg (ints .u8 l))).run Try.prog W = .ok (.bool true) W := by
  have := run_eql_ints 47 5 4 .u8 .u8 l l Try.underlying47 Try.underlying5 size5 h h W
  rw [decide_eq_true rfl] at this
  exact this
set_option maxHeartbeats 8000000 in
set_option maxRecDepth 100000 in
theorem mixes_law (c : Col) (hc : c.length = 4) (w : World) : Calls Try.prog 12 #[.agg (ints .u8 (cv c))] w fun e w' => e = .returned (.bool true) ∧ Below w.heap.size w w' := by
  obtain ⟨hz, -⟩ := zero_of_info (P := Try.prog) info47
  have hl : ∀ d : Col, d.length = 4 → (cv d).length = 4 := fun d hd => by rw [cv_length, hd]
  have hTl := turnB_length c mixM
  have hUl := turnB_length c unM
  have i1 := unmix_any (turnB c mixM) hTl
  rw [unmix_mix c hc] at i1
  have i2 := mix_any (turnB c unM) hUl
  rw [mix_unmix c hc] at i2
  obtain ⟨Lc, hLc⟩ : ∃ L, L = ints .u8 (cv c) := ⟨_, rfl⟩
  obtain ⟨Lm, hLm⟩ : ∃ L, L = ints .u8 (cv (turnB c mixM)) := ⟨_, rfl⟩
  obtain ⟨Lu, hLu⟩ : ∃ L, L = ints .u8 (cv (turnB c unM)) := ⟨_, rfl⟩
  obtain ⟨Km, hKm⟩ : ∃ L, L = ints .u8 (cv mixM) := ⟨_, rfl⟩
  obtain ⟨Ku, hKu⟩ : ∃ L, L = ints .u8 (cv unM) := ⟨_, rfl⟩
  obtain ⟨Z, hZ⟩ : ∃ L, L = ints .u8 (zer 4) := ⟨_, rfl⟩
  rw [← hZ] at hz
  have hmix := Lib.hid (fun w => mix_any c hc w)
  have hunm := Lib.hid (fun w => unmix_any c hc w)
  have htm := Lib.hid (fun w => refTurned_any c mixM hc rfl w)
  have htu := Lib.hid (fun w => refTurned_any c unM hc rfl w)
  have hinv1 := Lib.hid i1
  have hinv2 := Lib.hid i2
  have haw := Lib.hid (fun w => (awake_any w).mono fun e w' (h : e = .returned (.bool true) ∧ Drawn0 w w') => (show e = .returned (.bool true) ∧ Below w.heap.size w w' from ⟨h.1, h.2.below⟩))
  rw [← hLc, ← hLm] at hmix
  rw [← hLc, ← hLu] at hunm
  rw [← hLc, ← hLm, ← hKm] at htm
  rw [← hLc, ← hLu, ← hKu] at htu
  rw [← hLm, ← hLc] at hinv1
  rw [← hLu, ← hLc] at hinv2
  have hLcs := Lib.hid (show (Try.prog.info? 47).map (·.size) = some Lc.size by rw [hLc]; exact sz4 (hl _ hc))
  have hLms := Lib.hid (show (Try.prog.info? 47).map (·.size) = some Lm.size by rw [hLm]; exact sz4 (hl _ hTl))
  have hLus := Lib.hid (show (Try.prog.info? 47).map (·.size) = some Lu.size by rw [hLu]; exact sz4 (hl _ hUl))
  have hLmo := Lib.hid (show Lm.all (·.oneCell') = true by rw [hLm]; exact ints_one _ _)
  have hLuo := Lib.hid (show Lu.all (·.oneCell') = true by rw [hLu]; exact ints_one _ _)
  have hZm := Lib.hid (show Z.size = Lm.size by rw [hZ, hLm]; exact sz_eq ((zer_length 4).trans (hl _ hTl).symm))
  have hZu := Lib.hid (show Z.size = Lu.size by rw [hZ, hLu]; exact sz_eq ((zer_length 4).trans (hl _ hUl).symm))
  have hbm : ∀ W : World, (Instr.build 47 #[(0, .int .u8 2), (1, .int .u8 3), (2, .int .u8 1), (3, .int .u8 1)]).run Try.prog W = .ok (.agg Km) W := by rw [hKm]; exact buildMix
  have hbu : ∀ W : World, (Instr.build 47 #[(0, .int .u8 14), (1, .int .u8 11), (2, .int .u8 13), (3, .int .u8 9)]).run Try.prog W = .ok (.agg Ku) W := by rw [hKu]; exact buildUn
  have heqc : ∀ W, (binOp .eql 47 (.agg Lc) (.agg Lc)).run Try.prog W = .ok (.bool true) W := by rw [hLc]; exact eq47 _ (hl _ hc)
  have heqm : ∀ W, (binOp .eql 47 (.agg Lm) (.agg Lm)).run Try.prog W = .ok (.bool true) W := by rw [hLm]; exact eq47 _ (hl _ hTl)
  have hequ : ∀ W, (binOp .eql 47 (.agg Lu) (.agg Lu)).run Try.prog W = .ok (.bool true) W := by rw [hLu]; exact eq47 _ (hl _ hUl)
  have hgd : ∀ (x y : Operand) (L M : Array Value) (W : World), (eqGuard .eql 47 x y (.agg L) (.agg M)).run Try.prog W = .ok () W := fun x y L M W => run_eqGuard_plain 47 x y _ _ (by kernel_rfl) W
  rw [← hLc]
  clear i1 i2 hTl hUl hl hLc hLm hLu hKm hKu hZ hc
  go_enter Try.func12, Try.ntmps12
  go_wp2_with (first
    | (with_reducible refine wpList_load_row rfl 47 _ rfl w.heap.size rfl 47 Lc (0, 0) _ (heap_alloc_last _ _) Try.underlying47 rfl hLcs.out ?_)
    | (with_reducible refine wpList_load_row rfl 47 _ rfl w.heap.size rfl 47 Lc (0, 0) _ ((setRow_other _ _ _ _ (Nat.ne_of_lt (lt_of_heap g1.out))).trans ((heap_skip _ _ _ (Nat.ne_of_lt (lt_of_heap g1.out))).trans g1.out)) Try.underlying47 rfl hLcs.out ?_)
    | (with_reducible refine wpList_store_row rfl 47 _ _ rfl w1.heap.size Lm rfl rfl 47 Z (heap_alloc_last _ _) hLms.out hZm.out hLmo.out ?_)
    | (with_reducible refine wpList_store_row rfl 47 _ _ rfl w2.heap.size Lu rfl rfl 47 Z (heap_alloc_last _ _) hLus.out hZu.out hLuo.out ?_)
    | ((with_reducible go_at_call 32); refine (hmix.out _).mono ?_; rintro e w1 ⟨rfl, hb⟩; have b1 := Lib.hid (below_step ((Below.refl w.heap.size w).alloc (Nat.le_refl _) _) hb); have g1 := Lib.hid (heap_below (heap_alloc_last w (.cells Lc 47 (0, 0))) hb); clear hb)
    | ((with_reducible go_at_call 33); refine (hunm.out _).mono ?_; rintro e w2 ⟨rfl, hb⟩; have b2 := Lib.hid (below_then (below_setRow (below_alloc b1.out (.cells Z 47 (0, 0))) b1.out.size Lm) (by simp only [setRow_size, World.size_alloc]; exact Nat.le_succ_of_le b1.out.size) hb); have g2 := Lib.hid (heap_below ((setRow_other (w1.alloc (.cells Z 47 (0, 0))) w1.heap.size w.heap.size Lm (Nat.ne_of_lt (lt_of_heap g1.out))).trans ((heap_skip w1 _ _ (Nat.ne_of_lt (lt_of_heap g1.out))).trans g1.out)) hb); have m2 := Lib.hid (heap_below (setRow_heap (w1.alloc (.cells Z 47 (0, 0))) w1.heap.size Z Lm 47 (0, 0) (heap_alloc_last _ _)) hb); clear hb))
  have g3' := Lib.hid ((setRow_other (w2.alloc (.cells Z 47 (0, 0))) w2.heap.size w.heap.size Lu (Nat.ne_of_lt (lt_of_heap g2.out))).trans ((heap_skip w2 (.cells Z 47 (0, 0)) _ (Nat.ne_of_lt (lt_of_heap g2.out))).trans g2.out))
  have m3' := Lib.hid ((setRow_other (w2.alloc (.cells Z 47 (0, 0))) w2.heap.size w1.heap.size Lu (Nat.ne_of_lt (lt_of_heap m2.out))).trans ((heap_skip w2 (.cells Z 47 (0, 0)) _ (Nat.ne_of_lt (lt_of_heap m2.out))).trans m2.out))
  have u3' := Lib.hid (setRow_heap (w2.alloc (.cells Z 47 (0, 0))) w2.heap.size Z Lu 47 (0, 0) (heap_alloc_last _ _))
  have b3' := Lib.hid (below_setRow (below_alloc b2.out (.cells Z 47 (0, 0))) b2.out.size Lu)
  clear b1 b2 g1 g2 m2
  obtain ⟨g3, hg3⟩ : ∃ g, g = w1.heap.size := ⟨_, rfl⟩
  obtain ⟨g4, hg4⟩ : ∃ g, g = w2.heap.size := ⟨_, rfl⟩
  generalize (w2.alloc (.cells Z 47 (0, 0))).setRow w2.heap.size Lu = w3 at *
  rw [← hg4] at u3'
  rw [← hg3] at m3'
  rw [← hg3, ← hg4]
  clear hg3 hg4
  refine start_ (n := 28) (S := fun w' => w'.heap[w.heap.size]? = some (.cells Lc 47 (0, 0)) ∧ w'.heap[g3]? = some (.cells Lm 47 (0, 0)) ∧ w'.heap[g4]? = some (.cells Lu 47 (0, 0))) (ds := []) #[false, false, false, false, false, false, false, false, false, false, false, false, false, false, false, false, false, false, false, false, false, false, false, false, false, false, false, false] (by kernel_rfl) rfl rfl (by exact ⟨g3'.out, m3'.out, u3'.out⟩) (fun hHeld => ?_)
  refine take_ (i := 0) (N := some 9) (v := ?_) (a' := ?_) #[true, false, false, false, false, false, false, false, false, false, false, false, false, false, false, false, false, false, false, false, false, false, false, false, false, false, false, false] rfl rfl (by kernel_rfl) (fun _ _ _ h => h) (Or.inl ⟨by rfl, ?_⟩) hHeld ?_ ?_
  rotate_left
  · intro w' hS
    refine (exec_load_row w' 47 _ (by rfl) g3 (by rfl) 47 Lm (0, 0) _ hS.2.1 Try.underlying47 rfl hLms.out).trans ?_; show Result.ok (Next.value (Value.agg Lm)) w' = _; with_reducible rfl
  rotate_left
  · simp only [Act.put, List.setIfInBounds_toArray, List.set_cons_zero, List.set_cons_succ, i64_w, i32_w]
    rfl
  refine take_ (i := 1) (N := some 10) (v := ?_) (a' := ?_) #[true, true, false, false, false, false, false, false, false, false, false, false, false, false, false, false, false, false, false, false, false, false, false, false, false, false, false, false] rfl rfl (by kernel_rfl) (fun _ _ _ h => h) (Or.inl ⟨by rfl, ?_⟩) hHeld ?_ ?_
  rotate_left
  · intro w' hS
    refine (exec_load_row w' 47 _ (by rfl) w.heap.size (by rfl) 47 Lc (0, 0) _ hS.1 Try.underlying47 rfl hLcs.out).trans ?_; show Result.ok (Next.value (Value.agg Lc)) w' = _; with_reducible rfl
  rotate_left
  · simp only [Act.put, List.setIfInBounds_toArray, List.set_cons_zero, List.set_cons_succ, i64_w, i32_w]
    rfl
  refine pure_ (i := 2) (N := some 11) (v := ?_) (a' := ?_) #[true, true, true, false, false, false, false, false, false, false, false, false, false, false, false, false, false, false, false, false, false, false, false, false, false, false, false, false] rfl rfl (by kernel_rfl) (fun _ _ _ h => h) (Or.inl ⟨by rfl, ?_⟩) ?_ ?_
  rotate_left
  · intro w'
    go_simp
    with_reducible rfl
  rotate_left
  · simp only [Act.put, List.setIfInBounds_toArray, List.set_cons_zero, List.set_cons_succ, i64_w, i32_w]
    rfl
  refine one_ (i := 3) (N := some 12) #[true, true, true, true, false, false, false, false, false, false, false, false, false, false, false, false, false, false, false, false, false, false, false, false, false, false, false, false] rfl rfl (by kernel_rfl) (by decide) (fun K hK => ?_)
  refine goes_ Try.func34 (by kernel_rfl) rfl #[.agg Lc, .agg Km] (by rfl) rfl rfl (by (try simp only [List.map_toArray, List.map_cons, List.map_nil]); first | done | rfl) ?_
  refine (htm.out _).mono ?_
  rintro e w4 ⟨rfl, hb⟩
  refine ⟨_, rfl, ?_⟩
  have b3 := Lib.hid (below_then b3'.out b3'.out.size ((below_drew (Below.refl w3.heap.size w3)).trans hb))
  refine hK.out _ _ ⟨heap_below hHeld.1 hb, heap_below hHeld.2.1 hb, heap_below hHeld.2.2 hb⟩ (fun hHeld => ?_)
  clear hb
  clear hK K
  refine norm_ (a' := ?_) ?_ ?_
  rotate_left
  · show Act.put _ (some 12) _ = _
    simp only [Act.put, List.setIfInBounds_toArray, List.set_cons_zero, List.set_cons_succ, i64_w, i32_w]
    rfl
  refine pure_ (i := 4) (N := some 13) (v := ?_) (a' := ?_) #[true, true, true, true, true, false, false, false, false, false, false, false, false, false, false, false, false, false, false, false, false, false, false, false, false, false, false, false] rfl rfl (by kernel_rfl) (fun _ _ _ h => h) (Or.inl ⟨by rfl, ?_⟩) ?_ ?_
  rotate_left
  · intro w'
    go_simp
    with_reducible rfl
  rotate_left
  · simp only [Act.put, List.setIfInBounds_toArray, List.set_cons_zero, List.set_cons_succ, i64_w, i32_w]
    rfl
  refine pure_ (i := 5) (N := some 14) (v := ?_) (a' := ?_) #[true, true, true, true, true, true, false, false, false, false, false, false, false, false, false, false, false, false, false, false, false, false, false, false, false, false, false, false] rfl rfl (by kernel_rfl) (fun _ _ _ h => h) (Or.inl ⟨by rfl, ?_⟩) ?_ ?_
  rotate_left
  · intro w'
    go_simp
    with_reducible rfl
  rotate_left
  · simp only [Act.put, List.setIfInBounds_toArray, List.set_cons_zero, List.set_cons_succ, i64_w, i32_w]
    rfl
  refine take_ (i := 6) (N := some 15) (v := ?_) (a' := ?_) #[true, true, true, true, true, true, true, false, false, false, false, false, false, false, false, false, false, false, false, false, false, false, false, false, false, false, false, false] rfl rfl (by kernel_rfl) (fun _ _ _ h => h) (Or.inl ⟨by rfl, ?_⟩) hHeld ?_ ?_
  rotate_left
  · intro w' hS
    refine (exec_load_row w' 47 _ (by rfl) g4 (by rfl) 47 Lu (0, 0) _ hS.2.2 Try.underlying47 rfl hLus.out).trans ?_; show Result.ok (Next.value (Value.agg Lu)) w' = _; with_reducible rfl
  rotate_left
  · simp only [Act.put, List.setIfInBounds_toArray, List.set_cons_zero, List.set_cons_succ, i64_w, i32_w]
    rfl
  refine take_ (i := 7) (N := some 16) (v := ?_) (a' := ?_) #[true, true, true, true, true, true, true, true, false, false, false, false, false, false, false, false, false, false, false, false, false, false, false, false, false, false, false, false] rfl rfl (by kernel_rfl) (fun _ _ _ h => h) (Or.inl ⟨by rfl, ?_⟩) hHeld ?_ ?_
  rotate_left
  · intro w' hS
    refine (exec_load_row w' 47 _ (by rfl) w.heap.size (by rfl) 47 Lc (0, 0) _ hS.1 Try.underlying47 rfl hLcs.out).trans ?_; show Result.ok (Next.value (Value.agg Lc)) w' = _; with_reducible rfl
  rotate_left
  · simp only [Act.put, List.setIfInBounds_toArray, List.set_cons_zero, List.set_cons_succ, i64_w, i32_w]
    rfl
  refine pure_ (i := 8) (N := some 17) (v := ?_) (a' := ?_) #[true, true, true, true, true, true, true, true, true, false, false, false, false, false, false, false, false, false, false, false, false, false, false, false, false, false, false, false] rfl rfl (by kernel_rfl) (fun _ _ _ h => h) (Or.inl ⟨by rfl, ?_⟩) ?_ ?_
  rotate_left
  · intro w'
    go_simp
    with_reducible rfl
  rotate_left
  · simp only [Act.put, List.setIfInBounds_toArray, List.set_cons_zero, List.set_cons_succ, i64_w, i32_w]
    rfl
  refine one_ (i := 9) (N := some 18) #[true, true, true, true, true, true, true, true, true, true, false, false, false, false, false, false, false, false, false, false, false, false, false, false, false, false, false, false] rfl rfl (by kernel_rfl) (by decide) (fun K hK => ?_)
  refine goes_ Try.func34 (by kernel_rfl) rfl #[.agg Lc, .agg Ku] (by rfl) rfl rfl (by (try simp only [List.map_toArray, List.map_cons, List.map_nil]); first | done | rfl) ?_
  refine (htu.out _).mono ?_
  rintro e w5 ⟨rfl, hb⟩
  refine ⟨_, rfl, ?_⟩
  have b4 := Lib.hid (below_then b3.out b3.out.size hb)
  refine hK.out _ _ ⟨heap_below hHeld.1 hb, heap_below hHeld.2.1 hb, heap_below hHeld.2.2 hb⟩ (fun hHeld => ?_)
  clear hb
  clear hK K
  refine norm_ (a' := ?_) ?_ ?_
  rotate_left
  · show Act.put _ (some 18) _ = _
    simp only [Act.put, List.setIfInBounds_toArray, List.set_cons_zero, List.set_cons_succ, i64_w, i32_w]
    rfl
  refine pure_ (i := 10) (N := some 19) (v := ?_) (a' := ?_) #[true, true, true, true, true, true, true, true, true, true, true, false, false, false, false, false, false, false, false, false, false, false, false, false, false, false, false, false] rfl rfl (by kernel_rfl) (fun _ _ _ h => h) (Or.inl ⟨by rfl, ?_⟩) ?_ ?_
  rotate_left
  · intro w'
    go_simp
    with_reducible rfl
  rotate_left
  · simp only [Act.put, List.setIfInBounds_toArray, List.set_cons_zero, List.set_cons_succ, i64_w, i32_w]
    rfl
  refine pure_ (i := 11) (N := some 20) (v := ?_) (a' := ?_) #[true, true, true, true, true, true, true, true, true, true, true, true, false, false, false, false, false, false, false, false, false, false, false, false, false, false, false, false] rfl rfl (by kernel_rfl) (fun _ _ _ h => h) (Or.inl ⟨by rfl, ?_⟩) ?_ ?_
  rotate_left
  · intro w'
    go_simp
    with_reducible rfl
  rotate_left
  · simp only [Act.put, List.setIfInBounds_toArray, List.set_cons_zero, List.set_cons_succ, i64_w, i32_w]
    rfl
  refine pure_ (i := 12) (N := some 21) (v := ?_) (a' := ?_) #[true, true, true, true, true, true, true, true, true, true, true, true, true, false, false, false, false, false, false, false, false, false, false, false, false, false, false, false] rfl rfl (by kernel_rfl) (fun _ _ _ h => h) (Or.inl ⟨by rfl, ?_⟩) ?_ ?_
  rotate_left
  · intro w'
    go_simp
    with_reducible rfl
  rotate_left
  · simp only [Act.put, List.setIfInBounds_toArray, List.set_cons_zero, List.set_cons_succ, i64_w, i32_w]
    rfl
  refine take_ (i := 13) (N := some 22) (v := ?_) (a' := ?_) #[true, true, true, true, true, true, true, true, true, true, true, true, true, true, false, false, false, false, false, false, false, false, false, false, false, false, false, false] rfl rfl (by kernel_rfl) (fun _ _ _ h => h) (Or.inl ⟨by rfl, ?_⟩) hHeld ?_ ?_
  rotate_left
  · intro w' hS
    refine (exec_load_row w' 47 _ (by rfl) g3 (by rfl) 47 Lm (0, 0) _ hS.2.1 Try.underlying47 rfl hLms.out).trans ?_; show Result.ok (Next.value (Value.agg Lm)) w' = _; with_reducible rfl
  rotate_left
  · simp only [Act.put, List.setIfInBounds_toArray, List.set_cons_zero, List.set_cons_succ, i64_w, i32_w]
    rfl
  refine take_ (i := 15) (N := some 24) (v := ?_) (a' := ?_) #[true, true, true, true, true, true, true, true, true, true, true, true, true, true, false, true, false, false, false, false, false, false, false, false, false, false, false, false] rfl rfl (by kernel_rfl) (fun _ _ _ h => h) (Or.inl ⟨by rfl, ?_⟩) hHeld ?_ ?_
  rotate_left
  · intro w' hS
    refine (exec_load_row w' 47 _ (by rfl) w.heap.size (by rfl) 47 Lc (0, 0) _ hS.1 Try.underlying47 rfl hLcs.out).trans ?_; show Result.ok (Next.value (Value.agg Lc)) w' = _; with_reducible rfl
  rotate_left
  · simp only [Act.put, List.setIfInBounds_toArray, List.set_cons_zero, List.set_cons_succ, i64_w, i32_w]
    rfl
  refine one_ (i := 14) (N := some 23) #[true, true, true, true, true, true, true, true, true, true, true, true, true, true, true, true, false, false, false, false, false, false, false, false, false, false, false, false] rfl rfl (by kernel_rfl) (by decide) (fun K hK => ?_)
  refine goes_ Try.func33 (by kernel_rfl) rfl #[.agg Lm] (by rfl) rfl rfl (by (try simp only [List.map_toArray, List.map_cons, List.map_nil]); first | done | rfl) ?_
  refine (hinv1.out _).mono ?_
  rintro e w6 ⟨rfl, hb⟩
  refine ⟨_, rfl, ?_⟩
  have b5 := Lib.hid (below_then b4.out b4.out.size hb)
  refine hK.out _ _ ⟨heap_below hHeld.1 hb, heap_below hHeld.2.1 hb, heap_below hHeld.2.2 hb⟩ (fun hHeld => ?_)
  clear hb
  clear hK K
  refine norm_ (a' := ?_) ?_ ?_
  rotate_left
  · show Act.put _ (some 23) _ = _
    simp only [Act.put, List.setIfInBounds_toArray, List.set_cons_zero, List.set_cons_succ, i64_w, i32_w]
    rfl
  refine pure_ (i := 16) (N := some 25) (v := ?_) (a' := ?_) #[true, true, true, true, true, true, true, true, true, true, true, true, true, true, true, true, true, false, false, false, false, false, false, false, false, false, false, false] rfl rfl (by kernel_rfl) (fun _ _ _ h => h) (Or.inl ⟨by rfl, ?_⟩) ?_ ?_
  rotate_left
  · intro w'
    go_simp
    with_reducible rfl
  rotate_left
  · simp only [Act.put, List.setIfInBounds_toArray, List.set_cons_zero, List.set_cons_succ, i64_w, i32_w]
    rfl
  refine pure_ (i := 17) (N := some 26) (v := ?_) (a' := ?_) #[true, true, true, true, true, true, true, true, true, true, true, true, true, true, true, true, true, true, false, false, false, false, false, false, false, false, false, false] rfl rfl (by kernel_rfl) (fun _ _ _ h => h) (Or.inl ⟨by rfl, ?_⟩) ?_ ?_
  rotate_left
  · intro w'
    go_simp
    with_reducible rfl
  rotate_left
  · simp only [Act.put, List.setIfInBounds_toArray, List.set_cons_zero, List.set_cons_succ, i64_w, i32_w]
    rfl
  refine pure_ (i := 18) (N := some 27) (v := ?_) (a' := ?_) #[true, true, true, true, true, true, true, true, true, true, true, true, true, true, true, true, true, true, true, false, false, false, false, false, false, false, false, false] rfl rfl (by kernel_rfl) (fun _ _ _ h => h) (Or.inl ⟨by rfl, ?_⟩) ?_ ?_
  rotate_left
  · intro w'
    go_simp
    with_reducible rfl
  rotate_left
  · simp only [Act.put, List.setIfInBounds_toArray, List.set_cons_zero, List.set_cons_succ, i64_w, i32_w]
    rfl
  refine take_ (i := 19) (N := some 28) (v := ?_) (a' := ?_) #[true, true, true, true, true, true, true, true, true, true, true, true, true, true, true, true, true, true, true, true, false, false, false, false, false, false, false, false] rfl rfl (by kernel_rfl) (fun _ _ _ h => h) (Or.inl ⟨by rfl, ?_⟩) hHeld ?_ ?_
  rotate_left
  · intro w' hS
    refine (exec_load_row w' 47 _ (by rfl) g4 (by rfl) 47 Lu (0, 0) _ hS.2.2 Try.underlying47 rfl hLus.out).trans ?_; show Result.ok (Next.value (Value.agg Lu)) w' = _; with_reducible rfl
  rotate_left
  · simp only [Act.put, List.setIfInBounds_toArray, List.set_cons_zero, List.set_cons_succ, i64_w, i32_w]
    rfl
  refine take_ (i := 21) (N := some 30) (v := ?_) (a' := ?_) #[true, true, true, true, true, true, true, true, true, true, true, true, true, true, true, true, true, true, true, true, false, true, false, false, false, false, false, false] rfl rfl (by kernel_rfl) (fun _ _ _ h => h) (Or.inl ⟨by rfl, ?_⟩) hHeld ?_ ?_
  rotate_left
  · intro w' hS
    refine (exec_load_row w' 47 _ (by rfl) w.heap.size (by rfl) 47 Lc (0, 0) _ hS.1 Try.underlying47 rfl hLcs.out).trans ?_; show Result.ok (Next.value (Value.agg Lc)) w' = _; with_reducible rfl
  rotate_left
  · simp only [Act.put, List.setIfInBounds_toArray, List.set_cons_zero, List.set_cons_succ, i64_w, i32_w]
    rfl
  refine one_ (i := 20) (N := some 29) #[true, true, true, true, true, true, true, true, true, true, true, true, true, true, true, true, true, true, true, true, true, true, false, false, false, false, false, false] rfl rfl (by kernel_rfl) (by decide) (fun K hK => ?_)
  refine goes_ Try.func32 (by kernel_rfl) rfl #[.agg Lu] (by rfl) rfl rfl (by (try simp only [List.map_toArray, List.map_cons, List.map_nil]); first | done | rfl) ?_
  refine (hinv2.out _).mono ?_
  rintro e w7 ⟨rfl, hb⟩
  refine ⟨_, rfl, ?_⟩
  have b6 := Lib.hid (below_then b5.out b5.out.size hb)
  refine hK.out _ _ ⟨heap_below hHeld.1 hb, heap_below hHeld.2.1 hb, heap_below hHeld.2.2 hb⟩ (fun hHeld => ?_)
  clear hb
  clear hK K
  refine norm_ (a' := ?_) ?_ ?_
  rotate_left
  · show Act.put _ (some 29) _ = _
    simp only [Act.put, List.setIfInBounds_toArray, List.set_cons_zero, List.set_cons_succ, i64_w, i32_w]
    rfl
  refine pure_ (i := 22) (N := some 31) (v := ?_) (a' := ?_) #[true, true, true, true, true, true, true, true, true, true, true, true, true, true, true, true, true, true, true, true, true, true, true, false, false, false, false, false] rfl rfl (by kernel_rfl) (fun _ _ _ h => h) (Or.inl ⟨by rfl, ?_⟩) ?_ ?_
  rotate_left
  · intro w'
    go_simp
    with_reducible rfl
  rotate_left
  · simp only [Act.put, List.setIfInBounds_toArray, List.set_cons_zero, List.set_cons_succ, i64_w, i32_w]
    rfl
  refine pure_ (i := 23) (N := some 32) (v := ?_) (a' := ?_) #[true, true, true, true, true, true, true, true, true, true, true, true, true, true, true, true, true, true, true, true, true, true, true, true, false, false, false, false] rfl rfl (by kernel_rfl) (fun _ _ _ h => h) (Or.inl ⟨by rfl, ?_⟩) ?_ ?_
  rotate_left
  · intro w'
    go_simp
    with_reducible rfl
  rotate_left
  · simp only [Act.put, List.setIfInBounds_toArray, List.set_cons_zero, List.set_cons_succ, i64_w, i32_w]
    rfl
  refine pure_ (i := 24) (N := some 33) (v := ?_) (a' := ?_) #[true, true, true, true, true, true, true, true, true, true, true, true, true, true, true, true, true, true, true, true, true, true, true, true, true, false, false, false] rfl rfl (by kernel_rfl) (fun _ _ _ h => h) (Or.inl ⟨by rfl, ?_⟩) ?_ ?_
  rotate_left
  · intro w'
    go_simp
    with_reducible rfl
  rotate_left
  · simp only [Act.put, List.setIfInBounds_toArray, List.set_cons_zero, List.set_cons_succ, i64_w, i32_w]
    rfl
  refine one_ (i := 25) (N := some 34) #[true, true, true, true, true, true, true, true, true, true, true, true, true, true, true, true, true, true, true, true, true, true, true, true, true, true, false, false] rfl rfl (by kernel_rfl) (by decide) (fun K hK => ?_)
  refine goes_ Try.func22 (by kernel_rfl) rfl #[] (by rfl) rfl rfl (by (try simp only [List.map_toArray, List.map_cons, List.map_nil]); first | done | rfl) ?_
  refine (haw.out _).mono ?_
  rintro e w8 ⟨rfl, hb⟩
  refine ⟨_, rfl, ?_⟩
  have b7 := Lib.hid (below_then b6.out b6.out.size hb)
  refine hK.out _ _ ⟨heap_below hHeld.1 hb, heap_below hHeld.2.1 hb, heap_below hHeld.2.2 hb⟩ (fun hHeld => ?_)
  clear hb
  clear hK K
  refine norm_ (a' := ?_) ?_ ?_
  rotate_left
  · show Act.put _ (some 34) _ = _
    simp only [Act.put, List.setIfInBounds_toArray, List.set_cons_zero, List.set_cons_succ, i64_w, i32_w]
    rfl
  refine pure_ (i := 26) (N := some 35) (v := ?_) (a' := ?_) #[true, true, true, true, true, true, true, true, true, true, true, true, true, true, true, true, true, true, true, true, true, true, true, true, true, true, true, false] rfl rfl (by kernel_rfl) (fun _ _ _ h => h) (Or.inl ⟨by rfl, ?_⟩) ?_ ?_
  rotate_left
  · intro w'
    go_simp
    with_reducible rfl
  rotate_left
  · simp only [Act.put, List.setIfInBounds_toArray, List.set_cons_zero, List.set_cons_succ, i64_w, i32_w]
    rfl
  refine pure_ (i := 27) (N := some 2) (v := ?_) (a' := ?_) #[true, true, true, true, true, true, true, true, true, true, true, true, true, true, true, true, true, true, true, true, true, true, true, true, true, true, true, true] rfl rfl (by kernel_rfl) (fun _ _ _ h => h) (Or.inl ⟨by rfl, ?_⟩) ?_ ?_
  rotate_left
  · intro w'
    go_simp
    with_reducible rfl
  rotate_left
  · simp only [Act.put, List.setIfInBounds_toArray, List.set_cons_zero, List.set_cons_succ, i64_w, i32_w]
    rfl
  refine done_ (by kernel_rfl) ?_
  go_wp2_with fail
  go_ret
  exact ⟨rfl, b7.out⟩
theorem vec_ints {k : IntKind} {w : World} {xs : List Int} : ∀ {cs : List Value}, Opz.VecK (Kd.int k).K w xs cs → cs = xs.map (Value.int k) := by
  induction xs with
  | nil => intro cs h; exact h
  | cons x xs ih =>
    rintro cs ⟨c, c', rfl, hc, h⟩
    rw [ih h, hc]; rfl
theorem cv_of (xs : List Int) (hw : ∀ x ∈ xs, (Lit.int .u8 x).wf = true) : ∃ c : Col, xs = cv c := by
  induction xs with
  | nil => exact ⟨[], rfl⟩
  | cons x xs ih =>
    obtain ⟨v, rfl⟩ := B_of x (hw x (by simp))
    obtain ⟨c, rfl⟩ := ih (fun y hy => hw y (by simp [hy]))
    exact ⟨v :: c, rfl⟩
theorem FieldMixes_walk (w : World) (x0 : List Int) (cs0 : Array Value) (K0 : x0.length = 4 ∧ Opz.VecK (Kd.int .u8).K w x0 cs0.toList) (w0 : ∀ x ∈ x0, (Lit.int .u8 x).wf = true) :
    Calls Try.prog 12 #[.agg cs0] w fun e w' => e = .returned (.bool true) ∧ Below w.heap.size w w' := by
  obtain ⟨c, rfl⟩ := cv_of x0 w0
  obtain rfl : cs0 = ints .u8 (cv c) := Array.toList_inj.1 (by rw [vec_ints K0.2]; simp [ints])
  exact mixes_law c (by rw [← cv_length]; exact K0.1) w
end Go.Proofs.Ythmahaoadoeoaaa.Own
