import Derived.Test.YthmahaoadoeoaaaTwB
namespace Go.Proofs.Ythmahaoadoeoaaa.Tw
open Go.RowKit Go.Proofs.YthmahaoadoeoaaaW.PrintWords Go.Proofs.YthmahaoadoeoaaaW.PrintLast Go.Proofs.YthmahaoadoeoaaaW.PrintMore
set_option linter.unusedVariables false
set_option linter.unusedSimpArgs false
/-- A slice of numbers that is read, not empty: where it lies. -/
theorem C_range {k : IntKind} {w : World} {A : Option Addr} {n : Nat} {l : List Int} (h : Kd.C (Kd.int k) w A n l) (hn : 0 < n) :
    ∃ b o, A = some ⟨b, o, none⟩ ∧ w.rangeAt b o (l.map (Value.int k)) := by
  have h2 := Kd.reads_of_C (d := (0 : Int)) h
  obtain ⟨ad, rfl, hc⟩ := h2.2.2 hn
  obtain ⟨b, o, s⟩ := ad
  have h0 := hc 0 hn
  have hs : s = none := by
    cases s with
    | none => rfl
    | some s => 
      simp [Addr.add, World.cell?] at h0
      split at h0 <;> simp at h0
  subst hs
  refine ⟨b, o, rfl, fun j v hj => ?_⟩
  obtain ⟨hl, hv⟩ := List.getElem?_eq_some_iff.1 hj
  simp only [List.length_map] at hl
  have := hc j (by have := h2.1; omega)
  rw [Addr.add_mid] at this
  rw [this]
  simp only [List.getElem_map] at hv
  rw [← hv]
  simp [hl]
def itD : Nat → List Int → List Int
  | 0, l => l
  | n + 1, l => itD n (dblL l)
theorem itD_succ (n : Nat) (l : List Int) : itD (n + 1) l = dblL (itD n l) := by
  induction n generalizing l with
  | zero => rfl
  | succ n ih => rw [itD, ih]; rfl
theorem itD_length (n : Nat) (l : List Int) (h : l.length = 16) : (itD n l).length = 16 := by
  cases n with
  | zero => exact h
  | succ n => rw [itD_succ, dblL_length]
theorem lt_of_heap {w : World} {g : Nat} {o : Obj} (h : w.heap[g]? = some o) : g < w.heap.size := (Array.getElem?_eq_some_iff.1 h).1
theorem heap_below {w w1 : World} {g : Nat} {o : Obj} (h : w.heap[g]? = some o) (hb : Below w.heap.size w w1) : w1.heap[g]? = some o := (hb.block g (lt_of_heap h)).trans h
theorem sz_map {k : IntKind} {l : List Int} (h : l.length = 16) : (Try.prog.info? 32).map (·.size) = some (l.map (Value.int k)).length := by rw [List.length_map, h, size32]
theorem sz_ints {k : IntKind} {l : List Int} (h : l.length = 16) : (Try.prog.info? 32).map (·.size) = some (ints k l).size := by rw [ints_size, h, size32]
theorem sz_eq {k : IntKind} {l l' : List Int} (h : l.length = 16) (h' : l'.length = 16) : (ints k l).size = (ints k l').size := by rw [ints_size, ints_size, h, h']
theorem zer_length (n : Nat) : (zer n).length = n := by simp [zer]
set_option maxHeartbeats 1000000 in
theorem times_ok (A0 : Option Addr) (c0 : Nat) (l0 : List Int) (n : Nat) (w : World) (hr0 : Kd.C (Kd.int .u8) w A0 16 l0) (hl : l0.length = 16) (hc0 : 16 ≤ c0) (hn : n ≤ 65536) :
    Calls Try.prog 15 #[.slice A0 16 c0, .int .i64 (n : Int)] w fun e w' => ∃ v, e = .returned (.tuple #[v, .int .i64 0]) ∧ Kd.R (Kd.int .u8) 5 w' w.heap.size (fun _ => True) v (itD n l0) ∧ Below w.heap.size w w' := by
  obtain ⟨b, o, rfl, hra⟩ := C_range hr0 (by decide)
  obtain ⟨hz, hi⟩ := zero_of_info (P := Try.prog) info32
  have harr := fun W => run_arrayAt (P := Try.prog) (w := W) 32 5 16 (some ⟨b, o, none⟩) 16 c0 Try.underlying32 (by decide)
  have hl' := Lib.hid hl
  have hra' := Lib.hid hra
  have h1 : ((16 : Int) != 16) = false := rfl
  have h2 : ¬ ((n : Int) < 0) := by omega
  have h3 : ¬ ((65536 : Int) < (n : Int)) := by omega
  clear hl hra hr0 hi
  go_enter Try.func15, Try.ntmps15
  go_wp2_with (first | (with_reducible refine wpList_load_mid rfl 32 _ rfl b o rfl (l0.map (Value.int .u8)) _ hra'.out Try.underlying32 rfl (sz_map hl'.out) ?_) | (with_reducible refine wpList_store_row rfl 32 _ _ rfl w.heap.size (ints .u8 l0) rfl rfl 32 (ints .u8 (zer 16)) (heap_alloc_last _ _) (sz_ints hl'.out) (sz_eq (zer_length 16) hl'.out) (ints_one _ _) ?_))
  clear hz harr h1
  go_loopw [22] (fun i wr => ∃ k : Nat, k ≤ n ∧ i = .int .i64 k ∧ wr.heap[w.heap.size]? = some (.cells (ints .u8 (itD k l0)) 32 (0, 0)) ∧ Below w.heap.size w wr) (fun i _ => n - (intOf i).toNat)
  case atStart =>
    refine ⟨0, by omega, rfl, ?_, ?_⟩
    · exact setRow_heap _ _ (ints .u8 (zer 16)) _ _ _ (by ((repeat rw [heap_skip _ _ _ (by simp only [World.size_alloc]; omega)]); exact heap_at _ _ _ (by first | rfl | (simp only [World.size_alloc]))))
    · exact below_setRow ((Below.refl _ _).alloc (Nat.le_refl _) _) (Nat.le_refl _) _
  case round =>
    obtain ⟨k, hk, rfl, h6, hb⟩ := hrel
    have hlen := itD_length k l0 hl'.out
    have hlen' := Lib.hid hlen
    have h6' := Lib.hid h6
    clear hlen h6
    by_cases hlt : k < n
    · go_wp2_with (first | (go_at_call 35; (with_reducible refine (double_any (itD k l0) hlen'.out _).mono ?_); rintro e w1 ⟨rfl, hb1⟩) | (with_reducible refine wpList_load_row rfl 32 _ rfl w.heap.size rfl 32 (ints .u8 (itD k l0)) (0, 0) _ h6'.out Try.underlying32 rfl (sz_ints hlen'.out) ?_) | (with_reducible refine wpList_store_row rfl 32 _ _ rfl w.heap.size (ints .u8 (dblL (itD k l0))) rfl rfl 32 (ints .u8 (itD k l0)) (heap_below h6'.out hb1) (sz_ints (dblL_length _)) (sz_eq hlen'.out (dblL_length _)) (ints_one _ _) ?_))
      go_roundw
      case rel =>
        refine ⟨k + 1, by omega, by go_num, ?_, ?_⟩
        · rw [itD_succ]; exact setRow_heap _ _ _ _ _ _ (heap_below h6'.out hb1)
        · exact below_setRow (below_then hb hb.size hb1) (Nat.le_refl _) _
      case measure => simp [intOf]; omega
    · obtain rfl : k = n := by omega
      go_wp2_with (first | (go_at_call 36; (with_reducible refine (told_any (itD k l0) hlen'.out _).mono ?_); rintro e w1 ⟨v, rfl, hR, hb1⟩; have hR' := Lib.hid hR; clear hR) | (with_reducible refine wpList_load_row rfl 32 _ rfl w.heap.size rfl 32 (ints .u8 (itD k l0)) (0, 0) _ h6'.out Try.underlying32 rfl (sz_ints hlen'.out) ?_))
      go_ret2
      exact ⟨v, rfl, Kd.R_lower hR'.out hb.size, below_then hb hb.size hb1⟩
set_option maxHeartbeats 1000000 in
theorem times_no (A0 : Option Addr) (n0 c0 : Nat) (n : Int) (w : World) (h : n0 ≠ 16 ∨ n < 0 ∨ 65536 < n) :
    Calls Try.prog 15 #[.slice A0 n0 c0, .int .i64 n] w fun e w' => e = .returned (.tuple #[.slice none 0 0, .int .i64 2]) ∧ w' = w := by
  by_cases h0 : n0 = 16
  · subst h0
    have e0 : ((16 : Int) != 16) = false := rfl
    rcases h with h | h | h
    · exact absurd rfl h
    · go_enter Try.func15, Try.ntmps15
      go_wp2
      go_ret2
      exact ⟨rfl, rfl⟩
    · have h1 : ¬ n < 0 := by omega
      go_enter Try.func15, Try.ntmps15
      go_wp2
      go_ret2
      exact ⟨rfl, rfl⟩
  · have e0 : ((n0 : Int) != 16) = true := by simp; omega
    clear h
    go_enter Try.func15, Try.ntmps15
    go_wp2
    go_ret2
    exact ⟨rfl, rfl⟩
end Go.Proofs.Ythmahaoadoeoaaa.Tw
