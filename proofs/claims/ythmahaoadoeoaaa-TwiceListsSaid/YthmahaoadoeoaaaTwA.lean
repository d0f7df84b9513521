/- The function twice.double: sixteen bytes doubled. -/
import Derived.Test.YthmahaoadoeoaaaProg
import Derived.WalkKit
import Derived.KernelRfl
import Derived.RowKit3
import Derived.WalkLawsBesides
import Derived.Deep.LoopGhost
import Derived.Deep.MidRow
import Derived.Deep.WholeRow
import Derived.Laws.BitsLemmas
import Derived.Laws.CopyOwn
import Derived.Lib.Hide
namespace Go.Proofs.Ythmahaoadoeoaaa.Tw
open Go.RowKit
set_option linter.unusedVariables false
set_option linter.unusedSimpArgs false

/-- A list of numbers as an array's cells. -/
def ints (k : IntKind) (l : List Int) : Array Value := (l.map (Value.int k)).toArray
theorem ints_size (k : IntKind) (l : List Int) : (ints k l).size = l.length := by simp [ints]
theorem ints_get (k : IntKind) (l : List Int) (i : Nat) (h : i < l.length) : (ints k l)[i]? = some (.int k (l.getD i 0)) := by
  simp [ints, h]
theorem ints_set (k : IntKind) (l : List Int) (i : Nat) (v : Int) : (ints k l).setIfInBounds i (.int k v) = ints k (l.set i v) := by
  simp [ints, List.map_set]
theorem ints_one (k : IntKind) (l : List Int) : (ints k l).all (·.oneCell') = true := by
  refine Array.all_eq_true_iff_forall_mem.2 fun v hv => ?_
  simp [ints] at hv
  obtain ⟨x, _, rfl⟩ := hv
  rfl
theorem heap_at (w : World) (o : Obj) (i : Nat) (h : i = w.heap.size) : (w.alloc o).heap[i]? = some o := by
  subst h; exact heap_alloc_last w o
theorem heap_skip (w : World) (o : Obj) (i : Nat) (h : i ≠ w.heap.size) : (w.alloc o).heap[i]? = w.heap[i]? := by
  show (w.heap.push o)[i]? = _
  rw [Array.getElem?_push, if_neg h]
section
variable {P : Program}
/-- An element of an array's value. -/
theorem run_index_ints (T E : TypeId) (n : Nat) (k : IntKind) (l : List Int) (i : Nat) (hu : P.underlying T = some (.array n E)) (hs : (P.info? E).map (·.size) = some 1) (d : TypeDesc) (hE : P.underlying E = some d)
    (hd : (match d with | .struct _ | .array _ _ => true | _ => false) = false) (hl : l.length = n) (hi : i < n) (w : World) :
    (Instr.index T (.agg (ints k l)) (.int .i64 (i : Int))).run P w = .ok (.int k (l.getD i 0)) w := by
  have hag : (isAgg E).run P w = .ok false w := by
    unfold isAgg
    rw [Sem.run_bind, run_underlying hE w]
    cases d <;> simp_all
  cases hq : P.info? E with
  | none => simp [hq] at hs
  | some ie =>
    have hz : ie.size = 1 := by simpa [hq] using hs
    have hz' : (sizeOf E).run P w = .ok 1 w := by simp [sizeOf, typeInfo, hq, hz]
    have hp : (part E (ints k l) i).run P w = .ok (.int k (l.getD i 0)) w := by
      unfold part
      rw [Sem.run_bind, hag]
      simp only [Result.andThen_ok, Bool.false_eq_true, if_false]
      rw [ints_get k l i (by omega)]
      rfl
    unfold Instr.index
    simp only [asIntOf, Sem.run_bind, Sem.run_pure, Result.andThen_ok, run_underlying hu]
    rw [if_pos (by omega)]
    simp only [Sem.run_bind, hz', Result.andThen_ok, Int.toNat_natCast, Nat.mul_one, hp]
end
def zer (n : Nat) : List Int := List.replicate n 0
theorem info32 : (Try.prog.info? 32).map (fun i => (i.zero, i.size)) = some (some (.agg (ints .u8 (zer 16))), 16) := by kernel_rfl
theorem size32 : (Try.prog.info? 32).map (·.size) = some 16 := by kernel_rfl
theorem size5 : (Try.prog.info? 5).map (·.size) = some 1 := by kernel_rfl

def carryAt (l : List Int) : Nat → Int
  | 0 => 0
  | k + 1 => l.getD k 0 / 128
def outAt (l : List Int) (k : Nat) : Int := Go.bits .or .u8 ((l.getD k 0 * 2) % 256) (carryAt l k)
def outs (l : List Int) (k : Nat) : List Int := (List.range k).map (outAt l) ++ zer (16 - k)
theorem outs_length (l : List Int) (k : Nat) (h : k ≤ 16) : (outs l k).length = 16 := by simp [outs, zer]; omega
theorem outs_succ (l : List Int) (k : Nat) (h : k < 16) : (outs l k).set k (outAt l k) = outs l (k + 1) := by
  have e : zer (16 - k) = 0 :: zer (16 - (k + 1)) := by
    unfold zer
    rw [show 16 - k = (16 - (k + 1)) + 1 from by omega, List.replicate_succ]
  unfold outs
  rw [List.range_succ, List.map_append, e, List.set_append_right _ _ (by simp)]
  simp
def dblL (l : List Int) : List Int := (outs l 16).set 0 (Go.bits .xor .u8 ((outs l 16).getD 0 0) ((135 * carryAt l 16) % 256))
theorem dblL_length (l : List Int) : (dblL l).length = 16 := by simp [dblL, outs_length]

set_option maxHeartbeats 1000000 in
set_option maxRecDepth 100000 in
theorem double_any (l : List Int) (hl : l.length = 16) (w : World) :
    Calls Try.prog 35 #[.agg (ints .u8 l)] w fun e w' => e = .returned (.agg (ints .u8 (dblL l))) ∧ Below w.heap.size w w' := by
  obtain ⟨hz, hi⟩ := zero_of_info (P := Try.prog) info32
  have hl' := Lib.hid hl
  clear hl
  go_enter Try.func35, Try.ntmps35
  go_wp2_with (first | (with_reducible refine wpList_load_row rfl 32 _ rfl w.heap.size rfl 32 (ints .u8 l) (0, 0) _ ?hg Try.underlying32 rfl ?hs ?_))
  case hg => ((repeat rw [heap_skip _ _ _ (by simp only [World.size_alloc]; omega)]); exact heap_at _ _ _ (by simp only [World.size_alloc]))
  case hs => rw [ints_size, hl'.out, hi]
  clear hz
  go_loopw [4, 5, 6, 8] (fun c _ _ i wr => ∃ k : Nat, k ≤ 16 ∧ i = .int .i64 k ∧ c = .int .u8 (carryAt l k) ∧ wr.heap[w.heap.size + 1 + 1]? = some (.cells (ints .u8 (outs l k)) 32 (0, 0)) ∧
      wr.heap[w.heap.size + 1]? = some (.cells (ints .u8 (zer 16)) 32 (0, 0)) ∧ Below w.heap.size w wr) (fun _ _ _ i _ => 16 - (intOf i).toNat)
  case atStart => 
    refine ⟨0, by omega, rfl, rfl, ?_, ?_, ?_⟩
    · ((repeat rw [heap_skip _ _ _ (by simp only [World.size_alloc]; omega)]); exact heap_at _ _ _ (by simp only [World.size_alloc]))
    · ((repeat rw [heap_skip _ _ _ (by simp only [World.size_alloc]; omega)]); exact heap_at _ _ _ (by simp only [World.size_alloc]))
    · exact (((Below.refl _ _).alloc (Nat.le_refl _) _).alloc (by simp) _).alloc (by simp; omega) _
  case round =>
    obtain ⟨k, hk, rfl, rfl, h3, h2, hb⟩ := hrel
    have hc1 : ∀ j, j < 16 → wr.cell? ⟨w.heap.size + 1 + 1, j, none⟩ = some (.int .u8 ((outs l k).getD j 0)) := fun j hj => by
      rw [cell_of_row wr _ j _ _ _ h3]; exact ints_get _ _ _ (by rw [outs_length l k hk]; exact hj)
    have hf1 : ∀ j, wr.frozen? ⟨w.heap.size + 1 + 1, j, none⟩ = false := fun j => frozen_of_row wr _ j _ _ h3
    by_cases hlt : k < 16
    · have hidx := run_index_ints (P := Try.prog) 32 5 16 .u8 l k Try.underlying32 size5 _ Try.underlying5 rfl hl'.out hlt
      obtain ⟨x, hx⟩ : ∃ x, x = l.getD k 0 := ⟨_, rfl⟩
      rw [← hx] at hidx
      have hx' := Lib.hid hx
      have hc := hc1 k hlt
      have hf := hf1 k
      have h3' := Lib.hid h3
      have h2' := Lib.hid h2
      clear hx hc1 hf1 h3 h2
      go_wp2
      go_roundw
      case rel =>
        refine ⟨k + 1, by omega, by go_num, by rw [carryAt, hx'.out], ?_, ?_, ?_⟩
        · rw [heap_setCell_same _ _ _ _ _ _ h3'.out, ints_set, ← outs_succ l k hlt, outAt, hx'.out]
        · rw [heap_setCell_other _ _ _ _ (by simp)]; exact h2'.out
        · exact hb.setCell (by simp; omega) _
      case measure => simp [intOf]; omega
    · obtain rfl : k = 16 := by omega
      obtain ⟨x, hx⟩ : ∃ x, x = (outs l 16).getD 0 0 := ⟨_, rfl⟩
      have hc := hc1 0 (by omega)
      rw [← hx] at hc
      have hx' := Lib.hid hx
      have hf := hf1 0
      have h3' := Lib.hid h3
      have h2' := Lib.hid h2
      clear hc1 hf1 h3 h2 hlt hx
      go_wp2_with (first | (with_reducible refine wpList_load_row rfl 32 _ rfl (w.heap.size + 1 + 1) rfl 32 (ints .u8 (dblL l)) (0, 0) _ ?hg2 Try.underlying32 rfl ?hs2 ?_) | (with_reducible refine wpList_store_row rfl 32 _ _ rfl (w.heap.size + 1) (ints .u8 (dblL l)) rfl rfl 32 (ints .u8 (zer 16)) ?hg3 ?hs3 ?hs4 (ints_one _ _) ?_))
      case hg2 => rw [heap_setCell_same _ _ _ _ _ _ h3'.out, ints_set, dblL, hx'.out]
      case hs2 => rw [ints_size, dblL_length, size32]
      case hg3 => rw [heap_setCell_other _ _ _ _ (by simp)]; exact h2'.out
      case hs3 => rw [ints_size, dblL_length, size32]
      case hs4 => rw [ints_size, ints_size, dblL_length]; rfl
      refine bodyPost_ret (v := .agg (ints .u8 (dblL l))) (results_cell_row (p := 2) (ty := 32) rfl _ _ (w.heap.size + 1) 32 _ (0, 0) _ rfl (setRow_heap _ _ (ints .u8 (zer 16)) _ _ _ ?_) Try.underlying32 rfl ?_) rfl ⟨rfl, ?_⟩
      · rw [heap_setCell_other _ _ _ _ (by simp)]; exact h2'.out
      · rw [ints_size, dblL_length, size32]
      · exact below_setRow (hb.setCell (by simp; omega) _) (by omega) _
end Go.Proofs.Ythmahaoadoeoaaa.Tw
