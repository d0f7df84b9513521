/- What twice.Mul answers. -/
import Derived.Test.YthmahaoadoeoaaaTwC
import Derived.RegionTactic
import Derived.ChangeAlike
import Derived.BigRegion
namespace Go.Proofs.Ythmahaoadoeoaaa.Tw
open Go.RowKit Go.Proofs.YthmahaoadoeoaaaW.PrintWords Go.Proofs.YthmahaoadoeoaaaW.PrintLast Go.Proofs.YthmahaoadoeoaaaW.PrintMore
set_option linter.unusedVariables false
set_option linter.unusedSimpArgs false
def xk : Nat → List Int → List Int → List Int
  | 0, o, _ => o
  | k + 1, o, x => (xk k o x).set k (Go.bits .xor .u8 ((xk k o x).getD k 0) (x.getD k 0))
theorem xk_length (k : Nat) (o x : List Int) : (xk k o x).length = o.length := by
  induction k with
  | zero => rfl
  | succ k ih => rw [xk, List.length_set, ih]
def bitAt (b : List Int) (i : Nat) : Bool := Go.bits .and .u8 (b.getD (i / 8) 0 / 2 ^ (i % 8)) 1 == 1
def mulOut (a b : List Int) : Nat → List Int
  | 0 => zer 16
  | i + 1 => if bitAt b i then xk 16 (mulOut a b i) (itD i a) else mulOut a b i
theorem mulOut_length (a b : List Int) (i : Nat) : (mulOut a b i).length = 16 := by
  induction i with
  | zero => exact zer_length 16
  | succ i ih =>
    rw [mulOut]
    split
    · rw [xk_length, ih]
    · exact ih
theorem C_cell {k : IntKind} {w : World} {b o n : Nat} {l : List Int} (h : w.rangeAt b o (l.map (Value.int k))) (j : Nat) (hj : j < l.length) : w.cell? ⟨b, o + j, none⟩ = some (.int k (l.getD j 0)) := by
  refine h j _ ?_
  simp [hj]
set_option maxHeartbeats 2000000 in
set_option maxRecDepth 100000 in
theorem mul_ok (A0 : Option Addr) (c0 : Nat) (l0 : List Int) (A1 : Option Addr) (c1 : Nat) (l1 : List Int) (w : World) (hr0 : Kd.C (Kd.int .u8) w A0 16 l0) (hl : l0.length = 16) (hc0 : 16 ≤ c0)
    (hr1 : Kd.C (Kd.int .u8) w A1 16 l1) (hl1 : l1.length = 16) (hc1 : 16 ≤ c1) :
    Calls Try.prog 28 #[.slice A0 16 c0, .slice A1 16 c1] w fun e w' => ∃ v, e = .returned (.tuple #[v, .int .i64 0]) ∧ Kd.R (Kd.int .u8) 5 w' w.heap.size (fun _ => True) v (mulOut l0 l1 128) ∧ Below w.heap.size w w' := by
  obtain ⟨b, o, rfl, hra⟩ := C_range hr0 (by decide)
  obtain ⟨b1, o1, rfl, hrb⟩ := C_range hr1 (by decide)
  obtain ⟨hz, hi⟩ := zero_of_info (P := Try.prog) info32
  have harr := fun W => run_arrayAt (P := Try.prog) (w := W) 32 5 16 (some ⟨b, o, none⟩) 16 c0 Try.underlying32 (by decide)
  have hl' := Lib.hid hl
  have hl1' := Lib.hid hl1
  have hra' := Lib.hid hra
  have hrb' := Lib.hid hrb
  have h1 : ((16 : Int) != 16) = false := rfl
  clear hl hra hr0 hi hl1 hrb hr1
  go_enter Try.func28, Try.ntmps28
  go_wp2_with (first | (with_reducible refine wpList_load_mid rfl 32 _ rfl b o rfl (l0.map (Value.int .u8)) _ hra'.out Try.underlying32 rfl (sz_map hl'.out) ?_) | (with_reducible refine wpList_store_row rfl 32 _ _ rfl w.heap.size (ints .u8 l0) rfl rfl 32 (ints .u8 (zer 16)) (heap_alloc_last _ _) (sz_ints hl'.out) (sz_eq (zer_length 16) hl'.out) (ints_one _ _) ?_))
  clear hz harr h1
  go_loopw [8, 9, 21, 34] (fun _ _ i _ wr => ∃ k : Nat, k ≤ 128 ∧ i = .int .i64 k ∧ wr.heap[w.heap.size]? = some (.cells (ints .u8 (itD k l0)) 32 (0, 0)) ∧ wr.heap[w.heap.size + 1]? = some (.cells (ints .u8 (mulOut l0 l1 k)) 32 (0, 0)) ∧ Below w.heap.size w wr) (fun _ _ i _ _ => 128 - (intOf i).toNat)
  case atStart =>
    refine ⟨0, by omega, rfl, ?_, ?_, ?_⟩
    · rw [heap_skip _ _ _ (by simp)]
      exact setRow_heap _ _ (ints .u8 (zer 16)) _ _ _ (heap_alloc_last _ _)
    · exact heap_at _ _ _ (by simp)
    · exact (below_setRow ((Below.refl _ _).alloc (Nat.le_refl _) _) (Nat.le_refl _) _).alloc (by simp) _
  case round =>
    obtain ⟨i, hi, rfl, h6, h7, hb⟩ := hrel
    by_cases hlt : i < 128
    · have hcb : ∀ j, j < 16 → wr.cell? ⟨b1, o1 + j, none⟩ = some (.int .u8 (l1.getD j 0)) := fun j hj => by
        have hc := C_cell (n := 16) hrb'.out j (by rw [hl1'.out]; exact hj)
        rw [hb.cell (World.block_lt_of_cell? w _ hc)]; exact hc
      obtain ⟨x, hx⟩ : ∃ x, x = l1.getD (i / 8) 0 := ⟨_, rfl⟩
      have hcell := hcb (i / 8) (by omega)
      rw [← hx] at hcell
      have hlen := itD_length i l0 hl'.out
      have hlen' := Lib.hid hlen
      have hx' := Lib.hid hx
      clear hcb hlen hx
      cases hbit : (Go.bits .and .u8 (x / 2 ^ (i % 8)) 1 == 1) with
      | false =>
        have hmo : mulOut l0 l1 (i + 1) = mulOut l0 l1 i := by rw [mulOut, bitAt, ← hx'.out, hbit]; rfl
        have h6' := Lib.hid h6
        have h7' := Lib.hid h7
        have hmo' := Lib.hid hmo
        clear h6 h7 hmo
        go_wp2_with (first | (go_at_call 35; (with_reducible refine (double_any (itD i l0) hlen'.out _).mono ?_); rintro e w1 ⟨rfl, hb1⟩) | (with_reducible refine wpList_load_row rfl 32 _ rfl w.heap.size rfl 32 (ints .u8 (itD i l0)) (0, 0) _ h6'.out Try.underlying32 rfl (sz_ints hlen'.out) ?_) | (with_reducible refine wpList_store_row rfl 32 _ _ rfl w.heap.size (ints .u8 (dblL (itD i l0))) rfl rfl 32 (ints .u8 (itD i l0)) (heap_below h6'.out hb1) (sz_ints (dblL_length _)) (sz_eq hlen'.out (dblL_length _)) (ints_one _ _) ?_))
        go_roundw
        case rel =>
          refine ⟨i + 1, by omega, by go_num, ?_, ?_, ?_⟩
          · rw [itD_succ]; exact setRow_heap _ _ _ _ _ _ (heap_below h6'.out hb1)
          · rw [hmo'.out, setRow_other _ _ _ _ (by omega)]; exact heap_below h7'.out hb1
          · exact below_setRow (below_then hb hb.size hb1) (Nat.le_refl _) _
        case measure => simp [intOf]; omega
      | true =>
        have hmo : mulOut l0 l1 (i + 1) = xk 16 (mulOut l0 l1 i) (itD i l0) := by rw [mulOut, bitAt, ← hx'.out, hbit]; rfl
        have hml := mulOut_length l0 l1 i
        have h6' := Lib.hid h6
        have h7' := Lib.hid h7
        have hmo' := Lib.hid hmo
        have hml' := Lib.hid hml
        clear h6 h7 hmo hml
        go_wp2_with (first | (go_at_call 35; (with_reducible refine (double_any (itD i l0) hlen'.out _).mono ?_); rintro e w1 ⟨rfl, hb1⟩) | (with_reducible refine wpList_load_row rfl 32 _ rfl w.heap.size rfl 32 (ints .u8 (itD i l0)) (0, 0) _ h6'.out Try.underlying32 rfl (sz_ints hlen'.out) ?_) | (with_reducible refine wpList_store_row rfl 32 _ _ rfl w.heap.size (ints .u8 (dblL (itD i l0))) rfl rfl 32 (ints .u8 (itD i l0)) (heap_below h6'.out hb1) (sz_ints (dblL_length _)) (sz_eq hlen'.out (dblL_length _)) (ints_one _ _) ?_))
        obtain ⟨wo, rfl⟩ : ∃ wo : World, wo = wr := ⟨_, rfl⟩
        go_loopw [9, 34] (fun _ j wr => ∃ k : Nat, k ≤ 16 ∧ j = .int .i64 k ∧ wr.heap[w.heap.size]? = some (.cells (ints .u8 (itD i l0)) 32 (0, 0)) ∧ wr.heap[w.heap.size + 1]? = some (.cells (ints .u8 (xk k (mulOut l0 l1 i) (itD i l0))) 32 (0, 0)) ∧ Below w.heap.size w wr) (fun _ j _ => 16 - (intOf j).toNat)
        case atStart => exact ⟨0, by omega, rfl, h6'.out, h7'.out, hb⟩
        case round =>
          clear h6' h7' hb
          obtain ⟨k, hk, rfl, h6, h7, hb⟩ := hrel
          have hxl := xk_length k (mulOut l0 l1 i) (itD i l0)
          rw [hml'.out] at hxl
          by_cases hk16 : k < 16
          · obtain ⟨p, hp⟩ : ∃ p, p = (xk k (mulOut l0 l1 i) (itD i l0)).getD k 0 := ⟨_, rfl⟩
            obtain ⟨q, hq⟩ : ∃ q, q = (itD i l0).getD k 0 := ⟨_, rfl⟩
            have hc7 : wr.cell? ⟨w.heap.size + 1, k, none⟩ = some (.int .u8 p) := by rw [cell_of_row wr _ k _ _ _ h7, hp]; exact ints_get _ _ _ (by omega)
            have hf7 : wr.frozen? ⟨w.heap.size + 1, k, none⟩ = false := frozen_of_row wr _ k _ _ h7
            have hc6 : wr.cell? ⟨w.heap.size, k, none⟩ = some (.int .u8 q) := by rw [cell_of_row wr _ k _ _ _ h6, hq]; exact ints_get _ _ _ (by rw [hlen'.out]; omega)
            have h6' := Lib.hid h6
            have h7' := Lib.hid h7
            have hp' := Lib.hid hp
            have hq' := Lib.hid hq
            clear h6 h7 hp hq hxl
            go_wp2_with fail
            go_region
            go_wp2
            go_roundw
            case rel =>
              refine ⟨k + 1, by omega, by go_num, ?_, ?_, ?_⟩
              · rw [heap_drew, heap_setCell_other _ _ _ _ (by simp)]; exact h6'.out
              · rw [heap_drew, heap_setCell_same _ _ _ _ _ _ h7'.out, ints_set, xk, ← hp'.out, ← hq'.out]
              · exact (hb.setCell (by simp) _).drew
            case measure => simp [intOf]; omega
          · obtain rfl : k = 16 := by omega
            have h6' := Lib.hid h6
            have h7' := Lib.hid h7
            clear h6 h7 hxl hk16
            go_wp2_with (first | (go_at_call 35; (with_reducible refine (double_any (itD i l0) hlen'.out _).mono ?_); rintro e w1 ⟨rfl, hb1⟩) | (with_reducible refine wpList_load_row rfl 32 _ rfl w.heap.size rfl 32 (ints .u8 (itD i l0)) (0, 0) _ h6'.out Try.underlying32 rfl (sz_ints hlen'.out) ?_) | (with_reducible refine wpList_store_row rfl 32 _ _ rfl w.heap.size (ints .u8 (dblL (itD i l0))) rfl rfl 32 (ints .u8 (itD i l0)) (heap_below h6'.out hb1) (sz_ints (dblL_length _)) (sz_eq hlen'.out (dblL_length _)) (ints_one _ _) ?_))
            go_roundw
            case rel =>
              refine ⟨i + 1, by omega, by go_num, ?_, ?_, ?_⟩
              · rw [itD_succ]; exact setRow_heap _ _ _ _ _ _ (heap_below h6'.out hb1)
              · rw [hmo'.out, setRow_other _ _ _ _ (by omega)]; exact heap_below h7'.out hb1
              · exact below_setRow (below_then hb hb.size hb1) (Nat.le_refl _) _
            case measure => simp [intOf]; omega
    · obtain rfl : i = 128 := by omega
      have hml := mulOut_length l0 l1 128
      have h7' := Lib.hid h7
      have hml' := Lib.hid hml
      clear h6 h7 hml
      go_wp2_with (first | (go_at_call 36; (with_reducible refine (told_any (mulOut l0 l1 128) hml'.out _).mono ?_); rintro e w1 ⟨v, rfl, hR, hb1⟩; have hR' := Lib.hid hR; clear hR) | (with_reducible refine wpList_load_row rfl 32 _ rfl (w.heap.size + 1) rfl 32 (ints .u8 (mulOut l0 l1 128)) (0, 0) _ h7'.out Try.underlying32 rfl (sz_ints hml'.out) ?_))
      go_ret2
      exact ⟨v, rfl, Kd.R_lower hR'.out hb.size, below_then hb hb.size hb1⟩
set_option maxHeartbeats 1000000 in
theorem mul_no (A0 : Option Addr) (n0 c0 : Nat) (A1 : Option Addr) (n1 c1 : Nat) (w : World) (h : n0 ≠ 16 ∨ n1 ≠ 16) :
    Calls Try.prog 28 #[.slice A0 n0 c0, .slice A1 n1 c1] w fun e w' => e = .returned (.tuple #[.slice none 0 0, .int .i64 2]) ∧ w' = w := by
  by_cases h0 : n0 = 16
  · subst h0
    have e0 : ((16 : Int) != 16) = false := rfl
    have e1 : ((n1 : Int) != 16) = true := by simp; omega
    clear h
    go_enter Try.func28, Try.ntmps28
    go_wp2
    go_ret2
    exact ⟨rfl, rfl⟩
  · have e0 : ((n0 : Int) != 16) = true := by simp; omega
    clear h
    go_enter Try.func28, Try.ntmps28
    go_wp2
    go_ret2
    exact ⟨rfl, rfl⟩
end Go.Proofs.Ythmahaoadoeoaaa.Tw
