/- Words of 128 bits as sixteen bytes: what the laws' calls answer; TwiceKeeps, walked. -/
import Derived.Test.YthmahaoadoeoaaaTwM
import Derived.Test.YthmahaoadoeoaaaEqArr
import Derived.Test.YthmahaoadoeoaaaOpz
import Derived.WalkLawsBesides
namespace Go.Proofs.Ythmahaoadoeoaaa.Own
open Go.RowKit Go.Proofs.Ythmahaoadoeoaaa.Core Go.Proofs.Ythmahaoadoeoaaa.Q Go.Proofs.Ythmahaoadoeoaaa.Tw Go.Proofs.YthmahaoadoeoaaaW.PrintWords Go.Proofs.YthmahaoadoeoaaaW.PrintLast Go.Proofs.YthmahaoadoeoaaaW.PrintMore Go.Proofs.Ythmahaoadoeoaaa.Opz
set_option linter.unusedVariables false
set_option linter.unusedSimpArgs false
theorem vec_ints {k : IntKind} {w : World} {xs : List Int} : ∀ {cs : List Value}, VecK (Kd.int k).K w xs cs → cs = xs.map (Value.int k) := by
  induction xs with
  | nil => intro cs h; exact h
  | cons x xs ih =>
    rintro cs ⟨c, c', rfl, hc, h⟩
    rw [ih h, hc]; rfl
theorem arr_bys {w : World} {xs : List Int} {cs : Array Value} (h : xs.length = 16 ∧ VecK (Kd.int .u8).K w xs cs.toList) (hw : ∀ x ∈ xs, (Lit.int .u8 x).wf = true) : ∃ v, cs = ints .u8 (bys v) := by
  obtain ⟨v, rfl⟩ := bys_of xs h.1 hw
  exact ⟨v, Array.toList_inj.1 (by rw [vec_ints h.2]; simp [ints])⟩
theorem C_block {w : World} {g : Nat} {k : IntKind} {l : List Int} {t : TypeId} {fr : Nat × Nat} (h : w.heap[g]? = some (.cells (ints k l) t fr)) (hl : l.length ≤ 9223372036854775807) : Kd.C (Kd.int k) w (some ⟨g, 0, none⟩) l.length l :=
  Kd.C_of_reads (d := (0 : Int)) (h1 := fun _ => rfl) (reads_block h hl)
theorem C_bys {w : World} {g : Nat} {v : BitVec 128} {t : TypeId} {fr : Nat × Nat} (h : w.heap[g]? = some (.cells (ints .u8 (bys v)) t fr)) : Kd.C (Kd.int .u8) w (some ⟨g, 0, none⟩) 16 (bys v) := by
  have := C_block h (by rw [bys_length]; decide)
  rwa [bys_length] at this
/-- What a call answers: a word. -/
def Word (w w' : World) (e : Ending) (v : BitVec 128) : Prop := ∃ A c, e = .returned (.slice A 16 c) ∧ 16 ≤ c ∧ Kd.C (Kd.int .u8) w' A 16 (bys v) ∧ Below w.heap.size w w'
theorem of_R {w w' : World} {v : BitVec 128} {u : Value} {e : Nat} (hR : Kd.R (Kd.int .u8) e w' w.heap.size (fun _ => True) u (bys v)) (hb : Below w.heap.size w w') : Word w w' (.returned u) v := by
  obtain ⟨A, c, rfl, hc, hC⟩ := Kd.R_reads hR
  rw [bys_length] at hc hC ⊢
  exact ⟨A, c, rfl, hc, hC, hb⟩
theorem times_bys (v : BitVec 128) (n : Nat) (hn : n ≤ 65536) (w : World) (A : Option Addr) (c : Nat) (h : Kd.C (Kd.int .u8) w A 16 (bys v)) (hc : 16 ≤ c) :
    Calls Try.prog 15 #[.slice A 16 c, .int .i64 (n : Int)] w fun e w' => ∃ A c, e = .returned (.tuple #[.slice A 16 c, .int .i64 0]) ∧ 16 ≤ c ∧ Kd.C (Kd.int .u8) w' A 16 (bys (dbls P128 n v)) ∧ Below w.heap.size w w' := by
  have h1 := twice_Times.calls A c (bys v) (n : Int) _ _ w (by rw [bys_length]; exact h) (by rw [bys_length]; exact hc) (times_own v n hn)
  rw [bys_length] at h1
  refine h1.mono ?_
  rintro e w' ⟨u, rfl, hR, hb⟩
  obtain ⟨A, c, rfl, hc, hC⟩ := Kd.R_reads hR
  rw [bys_length] at hc hC ⊢
  exact ⟨A, c, rfl, hc, hC, hb⟩
theorem same_bys (a b : BitVec 128) (w : World) (A A' : Option Addr) (c c' : Nat) (h : Kd.C (Kd.int .u8) w A 16 (bys a)) (hc : 16 ≤ c) (h' : Kd.C (Kd.int .u8) w A' 16 (bys b)) (hc' : 16 ≤ c') :
    Calls Try.prog 16 #[.slice A 16 c, .slice A' 16 c'] w fun e w' => e = .returned (.bool (decide (a = b))) ∧ Drawn0 w w' := by
  have e : decide (a = b) = decide (bys a = bys b) := by
    by_cases h : a = b
    · simp [h]
    · have : bys a ≠ bys b := fun e => h (bys_inj e)
      simp [h, this]
  have h1 := nepentheref01_SameBytes.calls 100 A c (bys a) A' c' (bys b) _ w (by rw [bys_length]; exact h) (by rw [bys_length]; exact hc) (by rw [bys_length]; exact h') (by rw [bys_length]; exact hc') (same_eq 100 _ _ (by rw [bys_length]; decide) (by rw [bys_length]; decide))
  rw [bys_length, bys_length] at h1
  rw [e]
  exact h1
theorem same_eq_bys (a b : BitVec 128) (hab : a = b) (w : World) (A A' : Option Addr) (c c' : Nat) (h : Kd.C (Kd.int .u8) w A 16 (bys a)) (hc : 16 ≤ c) (h' : Kd.C (Kd.int .u8) w A' 16 (bys b)) (hc' : 16 ≤ c') :
    Calls Try.prog 16 #[.slice A 16 c, .slice A' 16 c'] w fun e w' => e = .returned (.bool true) ∧ Drawn0 w w' := by
  have := same_bys a b w A A' c c' h hc h' hc'
  rw [decide_eq_true hab] at this
  exact this
theorem mul_bys (a b : BitVec 128) (w : World) (A A' : Option Addr) (c c' : Nat) (h : Kd.C (Kd.int .u8) w A 16 (bys a)) (hc : 16 ≤ c) (h' : Kd.C (Kd.int .u8) w A' 16 (bys b)) (hc' : 16 ≤ c') :
    Calls Try.prog 31 #[.slice A 16 c, .slice A' 16 c'] w fun e w' => Word w w' e (mul P128 a b) := by
  have h1 := nepenthelaw08_mul.calls A c (bys a) A' c' (bys b) (bys (mul P128 a b)) w (by rw [bys_length]; exact h) (by rw [bys_length]; exact hc) (by rw [bys_length]; exact h') (by rw [bys_length]; exact hc') (by rw [nepenthelaw08_mul.f, mul_own]; rfl)
  rw [bys_length, bys_length] at h1
  refine h1.mono ?_
  rintro e w' ⟨u, rfl, hR, hb⟩
  exact of_R hR hb
theorem xor_l (a b : BitVec 128) (d : Nat) : ∀ i, i + d = 16 → ∀ k, nepentheref01_Xor.l0 (k + d + 1) (bys a) (bys b) ((bys (a ^^^ b)).take i) (i : Int) = some (bys (a ^^^ b)) := by
  induction d with
  | zero =>
    intro i hi k
    obtain rfl : i = 16 := by omega
    rw [nepentheref01_Xor.l0, if_neg (by rw [bys_length]; decide), List.take_of_length_le (by rw [bys_length]; exact Nat.le_refl _)]
  | succ d ih =>
    intro i hi k
    have := ih (i + 1) (by omega) k
    have hg : (bys (a ^^^ b)).take (i + 1) = (bys (a ^^^ b)).take i ++ [Go.bits .xor .u8 ((bys a).getD i 0) ((bys b).getD i 0)] := by
      rw [List.take_succ_eq_append_getElem (by rw [bys_length]; omega)]
      have e := bys_get (a ^^^ b) i (by omega)
      rw [List.getD_eq_getElem?_getD, List.getElem?_eq_getElem (by rw [bys_length]; omega)] at e
      rw [bys_get a i (by omega), bys_get b i (by omega), xor8, ← byteB_xor, ← e]
      rfl
    rw [show ((i + 1 : Nat) : Int) = (i : Int) + 1 from by omega, hg] at this
    rw [show k + (d + 1) + 1 = (k + d + 1) + 1 from by omega, nepentheref01_Xor.l0, if_pos (by rw [bys_length]; omega), if_pos (by omega), if_pos (by rw [bys_length]; omega), if_pos (by rw [List.length_take, bys_length]; omega), w64 _ (by omega) (by omega), rd_nat, rd_nat]
    exact this
theorem xor_bys (a b : BitVec 128) (w : World) (A A' : Option Addr) (c c' : Nat) (h : Kd.C (Kd.int .u8) w A 16 (bys a)) (hc : 16 ≤ c) (h' : Kd.C (Kd.int .u8) w A' 16 (bys b)) (hc' : 16 ≤ c') :
    Calls Try.prog 30 #[.slice A 16 c, .slice A' 16 c'] w fun e w' => Word w w' e (a ^^^ b) := by
  have h1 := nepentheref01_Xor.calls (0 + 16 + 1) A c (bys a) A' c' (bys b) (bys (a ^^^ b)) w (by rw [bys_length]; exact h) (by rw [bys_length]; exact hc) (by rw [bys_length]; exact h') (by rw [bys_length]; exact hc') (xor_l a b 16 0 (by omega) 0)
  rw [bys_length, bys_length] at h1
  refine h1.mono ?_
  rintro e w' ⟨u, rfl, hR, hb⟩
  exact of_R hR hb
theorem awake_any (w : World) : Calls Try.prog 13 #[] w fun e w' => e = .returned (.bool true) ∧ Below w.heap.size w w' := nepenthelaw08_awake.calls true w awake_eq
section
variable {P : Program} {a : Act} {op : Oper}
theorem exec_load_mid (w : World) (ty : TypeId) (x : Operand) (ho : op.op = .load ty x) (b o : Nat) (hx : a.eval x = .pointer (some ⟨b, o, none⟩)) (cs : List Value) (d : TypeDesc) (hc : w.rangeAt b o cs)
    (hu : P.underlying ty = some d) (hd : d.isRow = true) (hi : (P.info? ty).map (·.size) = some cs.length) : (execOp a.eval op).run P w = .ok (.value (.agg cs.toArray)) w := by
  unfold execOp
  simp only [ho, hx, Instr.loadAt, Instr.sureAddr, Sem.run_bind, Sem.run_pure, Result.andThen_ok, run_loadVar_mid w b o ty cs d hc hu hd hi]
end
/-- A word lies at g. -/
def At (w : World) (g : Nat) (v : BitVec 128) : Prop := w.heap[g]? = some (.cells (ints .u8 (bys v)) 32 (0, 0))
theorem At.below {w w' : World} {g : Nat} {v : BitVec 128} (h : At w g v) (hb : Below w.heap.size w w') : At w' g v := heap_below h hb
theorem At.range {w : World} {g : Nat} {v : BitVec 128} (h : At w g v) : w.rangeAt g 0 ((bys v).map (Value.int .u8)) := fun j u hj => by
  rw [Nat.zero_add, cell_of_row w g j _ _ _ h]
  simpa [ints] using hj
set_option maxHeartbeats 2000000 in
set_option maxRecDepth 100000 in
theorem keeps (a b : BitVec 128) (n : Nat) (hn : n ≤ 255) (w : World) :
    Calls Try.prog 4 #[.agg (ints .u8 (bys a)), .agg (ints .u8 (bys b)), .int .u8 (n : Int)] w fun e w' => e = .returned (.bool true) ∧ Below w.heap.size w w' := by
  have hT1 := times_bys a n (by omega)
  have hT2 := times_bys b n (by omega)
  have hS := same_bys (dbls P128 n a) (dbls P128 n b)
  have hdi : decide (dbls P128 n a = dbls P128 n b) = decide (a = b) := by
    rw [decide_eq_decide]
    exact ⟨dbls_inj P128 (by decide) n a b, fun h => by rw [h]⟩
  have hbi : decide (bys a = bys b) = decide (a = b) := by
    rw [decide_eq_decide]
    exact ⟨bys_inj, fun h => by rw [h]⟩
  have heq : ∀ W, (binOp .eql 32 (.agg ((bys a).map (Value.int .u8)).toArray) (.agg ((bys b).map (Value.int .u8)).toArray)).run Try.prog W = .ok (.bool (decide (a = b))) W := fun W => by
    rw [← hbi]
    exact run_eql_ints 32 5 16 .u8 .u8 (bys a) (bys b) Try.underlying32 Try.underlying5 size5 (bys_length _) (bys_length _) W
  have hgd : ∀ x y W, (eqGuard .eql 32 x y (.agg ((bys a).map (Value.int .u8)).toArray) (.agg ((bys b).map (Value.int .u8)).toArray)).run Try.prog W = .ok () W := fun x y W => run_eqGuard_plain 32 x y _ _ (by kernel_rfl) W
  rw [hdi] at hS
  obtain ⟨R, hR⟩ : ∃ R, R = decide (a = b) := ⟨_, rfl⟩
  rw [← hR] at hS heq
  have hRR : (R == R) = true := by simp
  obtain ⟨La, hLa⟩ : ∃ L, L = ints .u8 (bys a) := ⟨_, rfl⟩
  obtain ⟨Lb, hLb⟩ : ∃ L, L = ints .u8 (bys b) := ⟨_, rfl⟩
  rw [← hLa, ← hLb]
  have heq : ∀ W, (binOp .eql 32 (.agg La) (.agg Lb)).run Try.prog W = .ok (.bool R) W := by rw [hLa, hLb]; exact heq
  have hgd : ∀ x y W, (eqGuard .eql 32 x y (.agg La) (.agg Lb)).run Try.prog W = .ok () W := by rw [hLa, hLb]; exact hgd
  have hT1' := Lib.hid hT1
  have hT2' := Lib.hid hT2
  have hS' := Lib.hid hS
  have hLa' := Lib.hid hLa
  have hLb' := Lib.hid hLb
  clear hT1 hT2 hS hLa hLb hR hdi hbi
  go_enter Try.func4, Try.ntmps4
  go_wp2_with (first
    | (go_at_call 15; refine (hT1'.out _ _ _ (C_bys (g := w.heap.size) (t := 32) (fr := (0, 0)) (by rw [heap_skip _ _ _ (by simp), heap_at _ _ _ rfl, hLa'.out])) (by decide)).mono ?_; clear hT1'; rintro e w1 ⟨A, c, rfl, hc, hC, hb⟩; have hC1 := Lib.hid hC; have ha1 := Lib.hid (show At w1 w.heap.size a from heap_below (by rw [heap_skip _ _ _ (by simp), heap_at _ _ _ rfl, hLa'.out]) hb); have hb1' := Lib.hid (show At w1 (w.heap.size + 1) b from heap_below (by rw [heap_at _ _ _ (by simp), hLb'.out]) hb); have b1 := Lib.hid (below_then (((Below.refl _ _).alloc (Nat.le_refl _) _).alloc (by simp) _) (by simp; omega) hb); clear hC hb)
    | (go_at_call 15; refine (hT2'.out _ _ _ (C_bys hb1'.out) (by decide)).mono ?_; rintro e w2 ⟨A2, c2, rfl, hc2, hC, hb⟩; have hC2 := Lib.hid hC; have hC1' := Lib.hid (Kd.C_below hC1.out hb); have ha2 := Lib.hid (ha1.out.below hb); have hb2 := Lib.hid (hb1'.out.below hb); have b2 := Lib.hid (below_then b1.out b1.out.size hb); clear hC hb hC1 ha1 hb1' b1))
  refine start_ (n := 19) (S := fun w' => At w' w.heap.size a ∧ At w' (w.heap.size + 1) b) (ds := []) #[false, false, false, false, false, false, false, false, false, false, false, false, false, false, false, false, false, false, false] (by kernel_rfl) rfl rfl (by exact ⟨ha2.out, hb2.out⟩) (fun hHeld => ?_)
  refine pure_ (i := 0) (N := some 25) (v := ?_) (a' := ?_) #[true, false, false, false, false, false, false, false, false, false, false, false, false, false, false, false, false, false, false] rfl rfl (by kernel_rfl) (fun _ _ _ h => h) (Or.inl ⟨by rfl, ?_⟩) ?_ ?_
  rotate_left
  · intro w'
    go_simp
    with_reducible rfl
  rotate_left
  · simp only [Act.put, List.setIfInBounds_toArray, List.set_cons_zero, List.set_cons_succ, i64_w, i32_w]
    rfl
  refine pure_ (i := 1) (N := some 26) (v := ?_) (a' := ?_) #[true, true, false, false, false, false, false, false, false, false, false, false, false, false, false, false, false, false, false] rfl rfl (by kernel_rfl) (fun _ _ _ h => h) (Or.inl ⟨by rfl, ?_⟩) ?_ ?_
  rotate_left
  · intro w'
    go_simp
    with_reducible rfl
  rotate_left
  · simp only [Act.put, List.setIfInBounds_toArray, List.set_cons_zero, List.set_cons_succ, i64_w, i32_w]
    rfl
  refine pure_ (i := 2) (N := some 27) (v := ?_) (a' := ?_) #[true, true, true, false, false, false, false, false, false, false, false, false, false, false, false, false, false, false, false] rfl rfl (by kernel_rfl) (fun _ _ _ h => h) (Or.inl ⟨by rfl, ?_⟩) ?_ ?_
  rotate_left
  · intro w'
    go_simp
    with_reducible rfl
  rotate_left
  · simp only [Act.put, List.setIfInBounds_toArray, List.set_cons_zero, List.set_cons_succ, i64_w, i32_w]
    rfl
  refine pure_ (i := 3) (N := some 28) (v := ?_) (a' := ?_) #[true, true, true, true, false, false, false, false, false, false, false, false, false, false, false, false, false, false, false] rfl rfl (by kernel_rfl) (fun _ _ _ h => h) (Or.inl ⟨by rfl, ?_⟩) ?_ ?_
  rotate_left
  · intro w'
    go_simp
    with_reducible rfl
  rotate_left
  · simp only [Act.put, List.setIfInBounds_toArray, List.set_cons_zero, List.set_cons_succ, i64_w, i32_w]
    rfl
  refine pure_ (i := 4) (N := some 29) (v := ?_) (a' := ?_) #[true, true, true, true, true, false, false, false, false, false, false, false, false, false, false, false, false, false, false] rfl rfl (by kernel_rfl) (fun _ _ _ h => h) (Or.inl ⟨by rfl, ?_⟩) ?_ ?_
  rotate_left
  · intro w'
    go_simp
    with_reducible rfl
  rotate_left
  · simp only [Act.put, List.setIfInBounds_toArray, List.set_cons_zero, List.set_cons_succ, i64_w, i32_w]
    rfl
  refine pure_ (i := 5) (N := some 30) (v := ?_) (a' := ?_) #[true, true, true, true, true, true, false, false, false, false, false, false, false, false, false, false, false, false, false] rfl rfl (by kernel_rfl) (fun _ _ _ h => h) (Or.inl ⟨by rfl, ?_⟩) ?_ ?_
  rotate_left
  · intro w'
    go_simp
    with_reducible rfl
  rotate_left
  · simp only [Act.put, List.setIfInBounds_toArray, List.set_cons_zero, List.set_cons_succ, i64_w, i32_w]
    rfl
  refine pure_ (i := 6) (N := some 31) (v := ?_) (a' := ?_) #[true, true, true, true, true, true, true, false, false, false, false, false, false, false, false, false, false, false, false] rfl rfl (by kernel_rfl) (fun _ _ _ h => h) (Or.inl ⟨by rfl, ?_⟩) ?_ ?_
  rotate_left
  · intro w'
    go_simp
    with_reducible rfl
  rotate_left
  · simp only [Act.put, List.setIfInBounds_toArray, List.set_cons_zero, List.set_cons_succ, i64_w, i32_w]
    rfl
  refine pure_ (i := 7) (N := some 32) (v := ?_) (a' := ?_) #[true, true, true, true, true, true, true, true, false, false, false, false, false, false, false, false, false, false, false] rfl rfl (by kernel_rfl) (fun _ _ _ h => h) (Or.inl ⟨by rfl, ?_⟩) ?_ ?_
  rotate_left
  · intro w'
    go_simp
    with_reducible rfl
  rotate_left
  · simp only [Act.put, List.setIfInBounds_toArray, List.set_cons_zero, List.set_cons_succ, i64_w, i32_w]
    rfl
  refine pure_ (i := 8) (N := some 33) (v := ?_) (a' := ?_) #[true, true, true, true, true, true, true, true, true, false, false, false, false, false, false, false, false, false, false] rfl rfl (by kernel_rfl) (fun _ _ _ h => h) (Or.inl ⟨by rfl, ?_⟩) ?_ ?_
  rotate_left
  · intro w'
    go_simp
    with_reducible rfl
  rotate_left
  · simp only [Act.put, List.setIfInBounds_toArray, List.set_cons_zero, List.set_cons_succ, i64_w, i32_w]
    rfl
  refine take_ (i := 10) (N := some 35) (v := ?_) (a' := ?_) #[true, true, true, true, true, true, true, true, true, false, true, false, false, false, false, false, false, false, false] rfl rfl (by kernel_rfl) (fun _ _ _ h => h) (Or.inl ⟨by rfl, ?_⟩) hHeld ?_ ?_
  rotate_left
  · intro w' hS
    refine (exec_load_mid w' 32 _ (by rfl) w.heap.size 0 (by rfl) ((bys a).map (Value.int .u8)) _ hS.1.range Try.underlying32 rfl (by rw [List.length_map, bys_length, size32])).trans ?_; show Result.ok (Next.value (Value.agg (ints .u8 (bys a)))) w' = _; rw [← hLa'.out]
  rotate_left
  · simp only [Act.put, List.setIfInBounds_toArray, List.set_cons_zero, List.set_cons_succ, i64_w, i32_w]
    rfl
  refine take_ (i := 11) (N := some 36) (v := ?_) (a' := ?_) #[true, true, true, true, true, true, true, true, true, false, true, true, false, false, false, false, false, false, false] rfl rfl (by kernel_rfl) (fun _ _ _ h => h) (Or.inl ⟨by rfl, ?_⟩) hHeld ?_ ?_
  rotate_left
  · intro w' hS
    refine (exec_load_mid w' 32 _ (by rfl) (w.heap.size + 1) 0 (by rfl) ((bys b).map (Value.int .u8)) _ hS.2.range Try.underlying32 rfl (by rw [List.length_map, bys_length, size32])).trans ?_; show Result.ok (Next.value (Value.agg (ints .u8 (bys b)))) w' = _; rw [← hLb'.out]
  rotate_left
  · simp only [Act.put, List.setIfInBounds_toArray, List.set_cons_zero, List.set_cons_succ, i64_w, i32_w]
    rfl
  refine pure_ (i := 12) (N := some 37) (v := ?_) (a' := ?_) #[true, true, true, true, true, true, true, true, true, false, true, true, true, false, false, false, false, false, false] rfl rfl (by kernel_rfl) (fun _ _ _ h => h) (Or.inl ⟨by rfl, ?_⟩) ?_ ?_
  rotate_left
  · intro w'
    go_simp
    with_reducible rfl
  rotate_left
  · simp only [Act.put, List.setIfInBounds_toArray, List.set_cons_zero, List.set_cons_succ, i64_w, i32_w]
    rfl
  refine one_ (i := 9) (N := some 34) #[true, true, true, true, true, true, true, true, true, true, true, true, true, false, false, false, false, false, false] rfl rfl (by kernel_rfl) (by decide) (fun K hK => ?_)
  refine goes_ Try.func16 (by kernel_rfl) rfl #[.slice A 16 c, .slice A2 16 c2] (by rfl) rfl rfl (by simp only [List.map_toArray, List.map_cons, List.map_nil]; rfl) ?_
  refine (hS'.out _ _ _ _ _ (Kd.C_below hC1'.out (below_drew (Below.refl _ _))) hc (Kd.C_below hC2.out (below_drew (Below.refl _ _))) hc2).mono ?_
  rintro e w3 ⟨rfl, hd⟩
  refine ⟨_, rfl, ?_⟩
  have b3 := Lib.hid (below_then b2.out b2.out.size ((below_drew (Below.refl w2.heap.size w2)).trans hd.below))
  refine hK.out _ _ ⟨hHeld.1.below hd.below, hHeld.2.below hd.below⟩ (fun hHeld => ?_)
  clear hd
  clear hK K
  refine norm_ (a' := ?_) ?_ ?_
  rotate_left
  · show Act.put _ (some 34) _ = _
    simp only [Act.put, List.setIfInBounds_toArray, List.set_cons_zero, List.set_cons_succ, i64_w, i32_w]
    rfl
  refine pure_ (i := 13) (N := some 38) (v := ?_) (a' := ?_) #[true, true, true, true, true, true, true, true, true, true, true, true, true, true, false, false, false, false, false] rfl rfl (by kernel_rfl) (fun _ _ _ h => h) (Or.inl ⟨by rfl, ?_⟩) ?_ ?_
  rotate_left
  · intro w'
    go_simp
    with_reducible rfl
  rotate_left
  · simp only [Act.put, List.setIfInBounds_toArray, List.set_cons_zero, List.set_cons_succ, i64_w, i32_w]
    rfl
  refine pure_ (i := 14) (N := some 39) (v := ?_) (a' := ?_) #[true, true, true, true, true, true, true, true, true, true, true, true, true, true, true, false, false, false, false] rfl rfl (by kernel_rfl) (fun _ _ _ h => h) (Or.inl ⟨by rfl, ?_⟩) ?_ ?_
  rotate_left
  · intro w'
    go_simp
    with_reducible rfl
  rotate_left
  · simp only [Act.put, List.setIfInBounds_toArray, List.set_cons_zero, List.set_cons_succ, i64_w, i32_w]
    rfl
  refine pure_ (i := 15) (N := some 40) (v := ?_) (a' := ?_) #[true, true, true, true, true, true, true, true, true, true, true, true, true, true, true, true, false, false, false] rfl rfl (by kernel_rfl) (fun _ _ _ h => h) (Or.inl ⟨by rfl, ?_⟩) ?_ ?_
  rotate_left
  · intro w'
    go_simp
    with_reducible rfl
  rotate_left
  · simp only [Act.put, List.setIfInBounds_toArray, List.set_cons_zero, List.set_cons_succ, i64_w, i32_w]
    rfl
  refine one_ (i := 16) (N := some 41) #[true, true, true, true, true, true, true, true, true, true, true, true, true, true, true, true, true, false, false] rfl rfl (by kernel_rfl) (by decide) (fun K hK => ?_)
  refine goes_ Try.func13 (by kernel_rfl) rfl #[] (by rfl) rfl rfl (by simp only [List.map_toArray, List.map_nil]) ?_
  refine (awake_any _).mono ?_
  rintro e w4 ⟨rfl, hb⟩
  refine ⟨_, rfl, ?_⟩
  have b4 := Lib.hid (below_then b3.out b3.out.size hb)
  refine hK.out _ _ ⟨hHeld.1.below hb, hHeld.2.below hb⟩ (fun hHeld => ?_)
  clear hb
  clear hK K
  refine norm_ (a' := ?_) ?_ ?_
  rotate_left
  · show Act.put _ (some 41) _ = _
    simp only [Act.put, List.setIfInBounds_toArray, List.set_cons_zero, List.set_cons_succ, i64_w, i32_w]
    rfl
  refine pure_ (i := 17) (N := some 42) (v := ?_) (a' := ?_) #[true, true, true, true, true, true, true, true, true, true, true, true, true, true, true, true, true, true, false] rfl rfl (by kernel_rfl) (fun _ _ _ h => h) (Or.inl ⟨by rfl, ?_⟩) ?_ ?_
  rotate_left
  · intro w'
    go_simp
    with_reducible rfl
  rotate_left
  · simp only [Act.put, List.setIfInBounds_toArray, List.set_cons_zero, List.set_cons_succ, i64_w, i32_w]
    rfl
  refine pure_ (i := 18) (N := some 6) (v := ?_) (a' := ?_) #[true, true, true, true, true, true, true, true, true, true, true, true, true, true, true, true, true, true, true] rfl rfl (by kernel_rfl) (fun _ _ _ h => h) (Or.inl ⟨by rfl, ?_⟩) ?_ ?_
  rotate_left
  · intro w'
    go_simp
    with_reducible rfl
  rotate_left
  · simp only [Act.put, List.setIfInBounds_toArray, List.set_cons_zero, List.set_cons_succ, i64_w, i32_w]
    rfl
  refine done_ (by kernel_rfl) ?_
  go_wp2_with fail
  go_ret
  exact ⟨rfl, b4.out⟩
end Go.Proofs.Ythmahaoadoeoaaa.Own
namespace Go.Proofs.Ythmahaoadoeoaaa.Own
open Go.RowKit Go.Proofs.Ythmahaoadoeoaaa.Core Go.Proofs.Ythmahaoadoeoaaa.Q Go.Proofs.Ythmahaoadoeoaaa.Tw Go.Proofs.YthmahaoadoeoaaaW.PrintWords Go.Proofs.YthmahaoadoeoaaaW.PrintLast Go.Proofs.YthmahaoadoeoaaaW.PrintMore Go.Proofs.Ythmahaoadoeoaaa.Opz
theorem TwiceKeeps_walk (w : World) (x0 : List Int) (cs0 : Array Value) (K0 : x0.length = 16 ∧ VecK (Kd.int .u8).K w x0 cs0.toList) (w0 : ∀ x ∈ x0, (Lit.int .u8 x).wf = true) (x1 : List Int) (cs1 : Array Value) (K1 : x1.length = 16 ∧ VecK (Kd.int .u8).K w x1 cs1.toList) (w1 : ∀ x ∈ x1, (Lit.int .u8 x).wf = true) (n : Int) (w2 : (Lit.int .u8 n).wf = true) :
    Calls Try.prog 4 #[.agg cs0, .agg cs1, .int .u8 n] w fun e w' => e = .returned (.bool true) ∧ Below w.heap.size w w' := by
  obtain ⟨a, rfl⟩ := arr_bys K0 w0
  obtain ⟨b, rfl⟩ := arr_bys K1 w1
  obtain ⟨h0, h1⟩ := bounds_u8 w2
  obtain ⟨m, rfl⟩ := Int.eq_ofNat_of_zero_le h0
  exact keeps a b m (by omega) w
end Go.Proofs.Ythmahaoadoeoaaa.Own
