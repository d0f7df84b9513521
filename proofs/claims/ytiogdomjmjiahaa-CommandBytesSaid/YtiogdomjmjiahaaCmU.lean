/- Slices of bytes, appended and cut; numbers of four bytes. -/
import Derived.Test.YtiogdomjmjiahaaCmO
import Derived.Test.YtiogdomjmjiahaaONum
import Derived.Deep.AppendSrc
import Derived.Deep.Upon
namespace Go.Proofs.Ytiogdomjmjiahaa.Own
open Go.RowKit Go.Proofs.Ytiogdomjmjiahaa.Arr Go.Proofs.Ytiogdomjmjiahaa.QA Go.Proofs.YtiogdomjmjiahaaW.PrintWords Go.Proofs.YtiogdomjmjiahaaW.PrintLast Go.Proofs.YtiogdomjmjiahaaW.PrintMore
set_option linter.unusedVariables false
set_option linter.unusedSimpArgs false
theorem C_of_range {w : World} {b o : Nat} {l : List Int} (hm : l.length ≤ 9223372036854775807) (h : w.rangeAt b o (l.map (Value.int .u8))) : Kd.C (Kd.int .u8) w (some ⟨b, o, none⟩) l.length l :=
  C_of_readsInt ⟨rfl, hm, fun _ => ⟨_, rfl, fun j hj => by rw [Addr.add_mid]; exact C_cell h j hj⟩⟩
/-! ### slices of bytes, appended -/
theorem elem22 : Try.prog.elem 25 = 5 := by simp [Program.elem, Try.underlying25]
theorem und22 : Try.prog.underlying 25 = some (.slice (Try.prog.elem 25)) := by rw [elem22]; exact Try.underlying25
theorem add_zero_map (A : Option Addr) : Option.map (fun x => x.add 0) A = A := by
  cases A with
  | none => rfl
  | some a => obtain ⟨b, o, s⟩ := a; cases s <;> simp [Addr.add]
theorem cut_to (A : Option Addr) (n c m : Nat) (hm : m ≤ c) (W : World) : (Instr.slice 25 (.slice A n c) none (some (.int .i64 (m : Int))) none).run Try.prog W = .ok (.slice A m c) W := by
  obtain ⟨i0, hi, _, hs, _⟩ := info_parts info5
  rw [run_slice_h W _ A n c und22 .i64 (m : Int) (Int.natCast_nonneg _) (by omega), elem22]
  simp [sizeOf, typeInfo, hi, hs, sliced, Result.andThen, add_zero_map]
theorem cut_from (A : Option Addr) (n c m : Nat) (hm : m ≤ n) (W : World) : (Instr.slice 25 (.slice A n c) (some (.int .i64 (m : Int))) none none).run Try.prog W = .ok (.slice (if c = m then A else A.map (·.add m)) (n - m) (c - m)) W := by
  obtain ⟨i0, hi, _, hs, _⟩ := info_parts info5
  rw [run_slice_l W _ A n c und22 .i64 (m : Int) (Int.natCast_nonneg _) (by omega), elem22]
  simp [sizeOf, typeInfo, hi, hs, sliced, Result.andThen]
theorem cut_full (A : Option Addr) (n c : Nat) (hn : n ≤ c) (W : World) : (Instr.slice 25 (.slice A n c) none (some (.int .i64 (n : Int))) (some (.int .i64 (n : Int)))).run Try.prog W = .ok (.slice A n n) W := by
  obtain ⟨i0, hi, _, hs, _⟩ := info_parts info5
  rw [run_slice_hm W _ A n c und22 .i64 .i64 (n : Int) (n : Int) (Int.natCast_nonneg _) (Int.le_refl _) (by omega), elem22]
  simp [sizeOf, typeInfo, hi, hs, sliced, Result.andThen, add_zero_map]
theorem u8_one (l : List Int) : ∀ u ∈ l.map (Value.int .u8), u.oneCell' = true := by
  intro u hu
  obtain ⟨x, _, rfl⟩ := List.mem_map.1 hu
  rfl
theorem src_of_C {w : World} {A : Option Addr} {c : Nat} {l : List Int} (h : Kd.C (Kd.int .u8) w A l.length l) : Src Try.prog 1 25 (.slice A l.length c) l.length (l.map (Value.int .u8)) w := by
  rcases Nat.eq_zero_or_pos l.length with h0 | h0
  · obtain rfl := List.length_eq_zero_iff.1 h0
    refine ⟨.inl ⟨_, Try.underlying25⟩, fun _ => rfl, ?_, ?_, rfl, fun _ h => by cases h⟩ <;>
      (cases A <;> simp [Builtin.firstCells, loadCells, loadCellsFrom])
  · obtain ⟨b, o, rfl, hr⟩ := C_range h h0
    exact Src.ofSlice w Try.underlying25 _ _ _ _ (by simp) (fun j u hj => by rw [Addr.add_mid]; exact hr j u hj) (u8_one l)
theorem first_of_C {w : World} {A : Option Addr} {c : Nat} {l : List Int} (h : Kd.C (Kd.int .u8) w A l.length l) : (Builtin.firstCells 1 l.length (.slice A l.length c)).run Try.prog w = .ok (l.map (Value.int .u8)).toArray w := (src_of_C h).cells
/-- append(x[:n:n], y..): a new row, or, if nothing is appended, the same. -/
theorem append_full {w : World} {A : Option Addr} {l : List Int} {B : Option Addr} {cb : Nat} {m : List Int} (ty : TypeId) (hl : Kd.C (Kd.int .u8) w A l.length l) (hm : Kd.C (Kd.int .u8) w B m.length m) (hb : l.length + m.length ≤ 70368744177664) :
    ∃ A' c' w', (Builtin.append_ #[25, 25] ty #[.slice A l.length l.length, .slice B m.length cb]).run Try.prog w = .ok (.slice A' (l ++ m).length c') w' ∧ Kd.C (Kd.int .u8) w' A' (l ++ m).length (l ++ m) ∧ (l ++ m).length ≤ c' ∧ Below w.heap.size w w' ∧ (A' = A ∧ m = [] ∨ A' = some ⟨w.heap.size, 0, none⟩) := by
  obtain ⟨i0, hi, hz, hs, hby⟩ := info_parts info5
  rcases Nat.eq_zero_or_pos m.length with h0 | h0
  · obtain rfl := List.length_eq_zero_iff.1 h0
    rw [List.append_nil]
    have hsrc := src_of_C (c := cb) hm
    refine ⟨A, l.length, w, ?_, hl, Nat.le_refl _, Below.refl _ _, .inl ⟨rfl, rfl⟩⟩
    exact run_append_nothing w _ _ ty _ i0 Try.underlying25 hi A l.length l.length (Nat.le_refl _) _ (by rw [hs]; exact hsrc)
  · have hsrc := src_of_C (c := cb) hm
    have hg : l.length < l.length + m.length := by omega
    have hcap := nextslicecap_le hg
    have hld : Kd.C (Kd.int .u8) w.drew A l.length l := Kd.C_below hl (below_drew (Below.refl _ _))
    have hrun := run_append_grow_src (P := Try.prog) w 25 25 ty _ i0 (.int .u8 0) Try.underlying25 hi hz A l.length l.length (l.map (Value.int .u8)) (by rw [hs]; exact first_of_C hld) (.slice B m.length cb) m.length (m.map (Value.int .u8)) (by rw [hs]; exact hsrc) hg (by omega) (by rw [hby]; omega)
    refine ⟨_, _, _, by rw [List.length_append]; exact hrun, ?_, ?_, (below_drew (Below.refl _ _)).alloc (Nat.le_refl _) _, .inr rfl⟩
    · have hheap := heap_alloc_last w.drew (.cells (((l.map (Value.int .u8) ++ m.map (Value.int .u8)).toArray ++ Builtin.zeroCells (Value.int IntKind.u8 0).cells (grownCap w (l.length + m.length) l.length 5 - (l.length + m.length)))) 5 (0, 0))
      refine C_of_range (by rw [List.length_append]; omega) (fun j v hj => ?_)
      rw [Nat.zero_add]
      refine (cell_of_row _ _ j _ _ _ hheap).trans ?_
      have hj' := (List.getElem?_eq_some_iff.1 hj).1
      rw [List.length_map, List.length_append] at hj'
      rw [Array.getElem?_append_left (by simp; omega), List.getElem?_toArray, ← List.map_append]
      exact hj
    · rw [List.length_append]; exact grownCap_ge _ _ _ _
section
variable {P : Program} {a : Act} {op : Oper}
theorem exec_append (w : World) (x y : Operand) (t1 t2 : TypeId) (ho : op.op = .call { callee := .builtin .append, args := #[x, y], argTypes := #[t1, t2] }) {v : Value} {w1 : World} (vx vy : Value) (hx : a.eval x = vx) (hy : a.eval y = vy)
    (hr : (Builtin.append_ #[t1, t2] op.type #[vx, vy]).run P w = .ok v w1) : (execOp a.eval op).run P w = .ok (.value v) w1 := by
  unfold execOp
  simp only [ho, resolve, invoke, builtin, Sem.run_bind, Sem.run_pure, Result.andThen_ok, List.map_toArray, List.map_cons, List.map_nil, hx, hy, hr]
end
def byt (x : Int) : Prop := 0 ≤ x ∧ x < 256
theorem numStep_eq (n x : Int) (h0 : 0 ≤ n) (h1 : n < 72057594037927936) (hx : byt x) : numStep n x = n * 256 + x := by
  obtain ⟨hx0, hx1⟩ := hx
  unfold numStep
  rw [wraps_u64 (n * 256) (by omega) (by omega), wraps_u64 x (by omega) (by omega)]
  exact Go.bits_join .u64 64 (by decide) wraps_u64 8 _ _ (by omega) (by omega) (by omega) (by omega) (by omega) (by omega)
theorem numL_4 (a b c d : Int) (ha : byt a) (hb : byt b) (hc : byt c) (hd : byt d) : numL [a, b, c, d] = a * 16777216 + b * 65536 + c * 256 + d := by
  obtain ⟨a0, a1⟩ := ha
  have hb' := hb
  have hc' := hc
  obtain ⟨b0, b1⟩ := hb'
  obtain ⟨c0, c1⟩ := hc'
  unfold numL
  simp only [List.foldl_cons, List.foldl_nil]
  rw [numStep_eq 0 a (by omega) (by omega) ⟨a0, a1⟩, numStep_eq _ b (by omega) (by omega) hb, numStep_eq _ c (by omega) (by omega) hc, numStep_eq _ d (by omega) (by omega) hd]
  omega
theorem numL_take4 (l : List Int) (h4 : 4 ≤ l.length) (hb : ∀ x ∈ l, byt x) : ∃ m : Nat, numL (l.take 4) = (m : Int) ∧ m < 4294967296 := by
  match l, h4 with
  | a :: b :: c :: d :: r, _ =>
    have ha := hb a (by simp)
    have hb' := hb b (by simp)
    have hc := hb c (by simp)
    have hd := hb d (by simp)
    refine ⟨(a * 16777216 + b * 65536 + c * 256 + d).toNat, ?_, ?_⟩
    · show numL [a, b, c, d] = _
      rw [numL_4 a b c d ha hb' hc hd]
      unfold byt at *
      omega
    · unfold byt at *
      omega
theorem numL_big4 (x : Int) (h : fit x) : numL (big4 x) = x := by
  obtain ⟨h0, h1⟩ := h
  show numL [x / 16777216 % 256, x / 65536 % 256, x / 256 % 256, x % 256] = x
  rw [numL_4 _ _ _ _ (by unfold byt; omega) (by unfold byt; omega) (by unfold byt; omega) (by unfold byt; omega)]
  omega
end Go.Proofs.Ytiogdomjmjiahaa.Own
