/- AppO, pruned (slim.py). -/
import Derived.Test.YtiogdomjmjiahaaZE10
namespace Go.Proofs.Ytiogdomjmjiahaa.Own
open Go.RowKit Go.Proofs.Ytiogdomjmjiahaa.Arr Go.Proofs.YtiogdomjmjiahaaW.PrintWords Go.Proofs.YtiogdomjmjiahaaW.PrintLast Go.Proofs.YtiogdomjmjiahaaW.PrintMore
set_option linter.unusedVariables false
set_option linter.unusedSimpArgs false
theorem heap_setCells_row {g : Nat} {t : TypeId} (vs : List Value) : ∀ (o : Nat) (w : World) (cur : Array Value), w.heap[g]? = some (.cells cur t (0, 0)) → o + vs.length ≤ cur.size →
    ∃ cur' : Array Value, (w.setCells g o vs).heap[g]? = some (.cells cur' t (0, 0)) ∧ cur'.size = cur.size ∧ cur'.toList.take (o + vs.length) = cur.toList.take o ++ vs := by
  induction vs with
  | nil => intro o w cur h _; exact ⟨cur, h, rfl, by simp⟩
  | cons v vs ih =>
    intro o w cur h hs
    simp only [List.length_cons] at hs
    have h1 := heap_setCell_same w g o cur t v h
    obtain ⟨cur', h2, h3, h4⟩ := ih (o + 1) _ _ h1 (by simp only [Array.size_setIfInBounds]; omega)
    refine ⟨cur', h2, by rw [h3, Array.size_setIfInBounds], ?_⟩
    rw [List.length_cons, show o + (vs.length + 1) = o + 1 + vs.length by omega, h4]
    have : (cur.setIfInBounds o v).toList.take (o + 1) = cur.toList.take o ++ [v] := by
      rw [Array.toList_setIfInBounds, List.take_succ_eq_append_getElem (by simp; omega)]
      congr 1
      · rw [List.take_set_of_le (Nat.le_refl _)]
      · simp
    rw [this, List.append_assoc]; rfl
theorem tape_setCells (g : Nat) (vs : List Value) : ∀ (o : Nat) (w : World), (w.setCells g o vs).tape = w.tape := by
  induction vs with
  | nil => intro o w; rfl
  | cons v vs ih => intro o w; rw [World.setCells, ih]; rfl
theorem size_setCells (g : Nat) (vs : List Value) : ∀ (o : Nat) (w : World), (w.setCells g o vs).heap.size = w.heap.size := by
  induction vs with
  | nil => intro o w; rfl
  | cons v vs ih => intro o w; rw [World.setCells, ih]; simp [World.setCell]
theorem own_append2 {w : World} (base : Nat) (ty T : TypeId) (v : Value) (xs : List Int) (src : Value) (m : List Int) (hsrc : Src Try.prog 1 T src m.length (m.map (Value.int .u8)) w)
    (ho : w.ownsRow base 5 1 v xs.length (nums .u8 xs)) (hbase : base ≤ w.heap.size) (hb : xs.length + m.length ≤ 70368744177664) :
    ∃ v' w', (Builtin.append_ #[25, T] ty #[v, src]).run Try.prog w = .ok v' w' ∧ w'.ownsRow base 5 1 v' (xs ++ m).length (nums .u8 (xs ++ m)) ∧ w.grownBy w' v.ownBlock ∧ (∀ k, v'.ownBlock = some k → v.ownBlock = some k ∨ w.heap.size ≤ k) := by
  obtain ⟨i0, hi, hz, hs, hby⟩ := info_parts info5
  have hnum : nums .u8 (xs ++ m) = nums .u8 xs ++ m.map (Value.int .u8) := by simp [nums]
  have hxl : (nums .u8 xs).length = xs.length := by simp [nums]
  have hlen : (nums .u8 (xs ++ m)).length = (xs ++ m).length * 1 := by simp [nums]
  -- a new row
  have grow : ∀ (A : Option Addr) (n c : Nat), v = .slice A n c → n = xs.length → c < xs.length + m.length → n ≤ c → (Builtin.firstCells 1 n (.slice A n c)).run Try.prog w.drew = .ok (nums .u8 xs).toArray w.drew →
      ∃ v' w', (Builtin.append_ #[25, T] ty #[v, src]).run Try.prog w = .ok v' w' ∧ w'.ownsRow base 5 1 v' (xs ++ m).length (nums .u8 (xs ++ m)) ∧ w.grownBy w' v.ownBlock ∧ (∀ k, v'.ownBlock = some k → v.ownBlock = some k ∨ w.heap.size ≤ k) := by
    intro A n c hv hn hc hnc hf
    subst hv hn
    have hcap := nextslicecap_le hc
    have hrun := run_append_grow_src (P := Try.prog) w 25 T ty _ i0 (.int .u8 0) Try.underlying25 hi hz A xs.length c (nums .u8 xs) (by rw [hs]; exact hf) src m.length (m.map (Value.int .u8)) (by rw [hs]; exact hsrc) hc (by omega) (by rw [hby]; omega)
    refine ⟨_, _, hrun, ⟨hlen, .inr ⟨w.heap.size, _, _, by rw [List.length_append], hbase, heap_alloc_last w.drew _, by rw [List.length_append]; exact grownCap_ge _ _ _ _, grownCap_le_maxLen w _ _ _ (by simp only [maxLen]; omega), ?_, ?_⟩⟩, ⟨rfl, rfl, rfl, by simp, fun k hk _ => heap_skip w.drew _ k (Nat.ne_of_lt hk)⟩, fun k hk => by simp only [Value.ownBlock, Option.some.injEq] at hk; exact Or.inr (Nat.le_of_eq hk)⟩
    · have := grownCap_ge w (xs.length + m.length) c 5
      have hz1 : (Value.int IntKind.u8 0).cells.size = 1 := rfl
      simp only [Array.size_append, List.size_toArray, List.length_append, size_zeroCells, List.length_map, hxl, hz1]
      omega
    · simp only [Array.toList_append, List.append_assoc]
      rw [← List.append_assoc, ← hnum, ← hlen]
      exact List.take_left
  rcases ho.2 with ⟨rfl, h0⟩ | ⟨g, cap, cur, rfl, hbg, hg, hnc, hcm, hcs, htake⟩
  · have hx : xs = [] := List.length_eq_zero_iff.1 h0
    subst hx
    by_cases hm : m = []
    · subst hm
      refine ⟨.slice none 0 0, w, ?_, World.ownsRow_nil w base _ 1, ⟨rfl, rfl, rfl, Nat.le_refl _, fun _ _ _ => rfl⟩, fun k hk => by simp [Value.ownBlock] at hk⟩
      exact run_append_nothing w _ _ ty _ i0 Try.underlying25 hi none 0 0 (Nat.le_refl _) _ (by rw [hs]; exact hsrc)
    · have hml : 0 < m.length := List.length_pos_iff.2 hm
      exact grow none 0 0 rfl rfl (by simpa using hml) (Nat.le_refl _) (by simp [Builtin.firstCells, loadCells, loadCellsFrom, nums])
  · by_cases hroom : xs.length + m.length ≤ cap
    · have hfit : xs.length + (m.map (Value.int .u8)).length ≤ cur.size := by rw [List.length_map, hcs, Nat.mul_one]; exact hroom
      have hrun := run_append_room_src (P := Try.prog) w 25 T ty _ i0 Try.underlying25 hi g 0 xs.length cap src m.length (m.map (Value.int .u8)) (by rw [hs]; exact hsrc) hroom
        (fun j hj => by rw [cell_of_row w g _ _ _ _ hg, hs]; rw [Array.getElem?_eq_getElem (by omega)]; rfl) (fun j hj => frozen_of_row w g _ _ _ hg)
      rw [hs, Nat.mul_one, Nat.zero_add] at hrun
      obtain ⟨cur', h2, h3, h4⟩ := heap_setCells_row (m.map (Value.int .u8)) xs.length w cur hg hfit
      refine ⟨_, _, hrun, ⟨hlen, .inr ⟨g, cap, cur', by rw [List.length_append], hbg, h2, by rw [List.length_append]; exact hroom, hcm, by rw [h3, hcs], ?_⟩⟩, ⟨World.os_setCells _ _ _ _, ?_, World.output_setCells _ _ _ _, ?_, fun k hk hne => ?_⟩, fun k hk => Or.inl hk⟩
      · rw [Nat.mul_one] at htake
        rw [List.length_map] at h4
        rw [List.length_append, Nat.mul_one, h4, htake, hnum]
      · exact tape_setCells _ _ _ _
      · exact Nat.le_of_eq (size_setCells _ _ _ _).symm
      · exact World.heap_setCells_other w g _ _ hk (fun e => hne (by simp [Value.ownBlock, e]))
    · have holds : ∀ j u, (nums .u8 xs)[j]? = some u → w.cell? ((⟨g, 0, none⟩ : Addr).add j) = some u := ho.cells (g := g) rfl
      refine grow (some ⟨g, 0, none⟩) xs.length cap rfl rfl (by omega) hnc ?_
      exact run_firstCells_some w.drew 1 xs.length ⟨g, 0, none⟩ xs.length cap (nums .u8 xs) (by simp [nums]) holds
theorem own_append {w : World} (base : Nat) (ty T : TypeId) (v : Value) (xs : List Int) (src : Value) (m : List Int) (hsrc : Src Try.prog 1 T src m.length (m.map (Value.int .u8)) w)
    (ho : w.ownsRow base 5 1 v xs.length (nums .u8 xs)) (hbase : base ≤ w.heap.size) (hb : xs.length + m.length ≤ 70368744177664) :
    ∃ v' w', (Builtin.append_ #[25, T] ty #[v, src]).run Try.prog w = .ok v' w' ∧ w'.ownsRow base 5 1 v' (xs ++ m).length (nums .u8 (xs ++ m)) ∧ w.grownBy w' v.ownBlock := by
  obtain ⟨v', w', h1, h2, h3, -⟩ := own_append2 base ty T v xs src m hsrc ho hbase hb
  exact ⟨v', w', h1, h2, h3⟩
section
variable {ops : Array Oper} {rest : List Oper} {o : Oper} {a : Act} {w : World} {Q : Exit → Act → World → Prop}
theorem wpList_own_append (hg : o.guard = none) (x y : Operand) (T : TypeId) (ho : o.op = .call { callee := .builtin .append, args := #[x, y], argTypes := #[25, T] }) (base : Nat) (v : Value) (xs : List Int) (src : Value) (m : List Int) (hx : a.eval x = v) (hy : a.eval y = src)
    (hsrc : Src Try.prog 1 T src m.length (m.map (Value.int .u8)) w) (hown : w.ownsRow base 5 1 v xs.length (nums .u8 xs)) (hbase : base ≤ w.heap.size) (hb : xs.length + m.length ≤ 70368744177664)
    (h : ∀ v' w', w'.ownsRow base 5 1 v' (xs ++ m).length (nums .u8 (xs ++ m)) → w.grownBy w' v.ownBlock → wpList Try.prog ops Q rest (a.put o.dst v') w') : wpList Try.prog ops Q (o :: rest) a w := by
  obtain ⟨v', w', hrun, h1, h2⟩ := own_append base o.type T v xs src m hsrc hown hbase hb
  refine wpList_plain hg fun _ hK => ?_
  unfold Oper.wp
  rw [exec_append w x y _ _ ho v src hx hy hrun]
  exact hK _ _ (h v' w' h1 h2)
end
theorem src_lit (W : World) (b : Nat) (m : List Int) (hm : 0 < m.length) (hb : W.heap[b]? = some (.cells (ints .u8 m) 5 (0, 0))) (c : Nat) : Src Try.prog 1 25 (.slice (some ⟨b, 0, none⟩) m.length c) m.length (m.map (Value.int .u8)) W :=
  Src.ofSlice W Try.underlying25 _ _ _ _ (by simp) (fun j u hj => by
    rw [Addr.add_lit, Nat.zero_add, cell_of_row W b j _ _ _ hb]
    simpa [ints] using hj) (u8_one m)
theorem src_str (W : World) (m : List Int) (hm : ∀ x ∈ m, byt x) : Src Try.prog 1 9 (.string (strOfNums m)) m.length (m.map (Value.int .u8)) W := by
  have h := Src.ofString (P := Try.prog) W Try.underlying9 (strOfNums m)
  have e : byteCells (strOfNums m) = m.map (Value.int .u8) := by
    unfold byteCells
    rw [strOfNums_data, List.map_map]
    refine List.map_congr_left (fun x hx => ?_)
    obtain ⟨h0, h1⟩ := hm x hx
    simp only [Function.comp]
    congr 1
    rw [UInt8.toNat_ofNat']
    omega
  rw [e, strOfNums_size] at h
  exact h
end Go.Proofs.Ytiogdomjmjiahaa.Own
