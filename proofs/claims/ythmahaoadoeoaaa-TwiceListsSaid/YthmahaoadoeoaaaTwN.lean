/- twice.List, TwiceLists, walked. -/
import Derived.Test.YthmahaoadoeoaaaTwK
namespace Go.Proofs.Ythmahaoadoeoaaa.Own
open Go.RowKit Go.Proofs.Ythmahaoadoeoaaa.Core Go.Proofs.Ythmahaoadoeoaaa.Q Go.Proofs.Ythmahaoadoeoaaa.Tw Go.Proofs.YthmahaoadoeoaaaW.PrintWords Go.Proofs.YthmahaoadoeoaaaW.PrintLast Go.Proofs.YthmahaoadoeoaaaW.PrintMore Go.Proofs.Ythmahaoadoeoaaa.Opz
set_option linter.unusedVariables false
set_option linter.unusedSimpArgs false
theorem infoL : (Try.prog.info? 22).map (fun i => (i.zero, i.size, i.bytes)) = some (some (.slice none 0 0), 1, 24) := by kernel_rfl
def lists (l0 : List Int) (n : Nat) : List (List Int) := (List.range n).map fun j => itD j l0
theorem lists_succ (l0 : List Int) (n : Nat) : lists l0 (n + 1) = lists l0 n ++ [itD n l0] := by simp [lists, List.range_succ]
theorem lists_length (l0 : List Int) (n : Nat) : (lists l0 n).length = n := by simp [lists]
theorem lists_get (l0 : List Int) (n j : Nat) (h : j < n) : (lists l0 n).getD j [] = itD j l0 := by simp [lists, List.getD_eq_getElem?_getD, h]
set_option maxHeartbeats 4000000 in
set_option maxRecDepth 100000 in
theorem list_ok (A0 : Option Addr) (c0 : Nat) (l0 : List Int) (n : Nat) (w : World) (hr0 : Kd.C (Kd.int .u8) w A0 16 l0) (hl : l0.length = 16) (hc0 : 16 ≤ c0) (hn : n ≤ 256) :
    Calls Try.prog 27 #[.slice A0 16 c0, .int .i64 (n : Int)] w fun e w' => ∃ v, e = .returned (.tuple #[v, .int .i64 0]) ∧ Kd.R (Kd.slice 5 (Kd.int .u8)) 22 w' w.heap.size (fun _ => True) v (lists l0 n) ∧ Below w.heap.size w w' := by
  obtain ⟨b, o, rfl, hra⟩ := C_range hr0 (by decide)
  obtain ⟨hz, hi⟩ := zero_of_info (P := Try.prog) info32
  have harr := fun W => run_arrayAt (P := Try.prog) (w := W) 32 5 16 (some ⟨b, o, none⟩) 16 c0 Try.underlying32 (by decide)
  have hl' := Lib.hid hl
  have hra' := Lib.hid hra
  have h1 : ((16 : Int) != 16) = false := rfl
  have h2 : ¬ ((n : Int) < 0) := by omega
  have h3 : ¬ ((256 : Int) < (n : Int)) := by omega
  clear hl hra hr0 hi
  go_enter Try.func27, Try.ntmps27
  go_wp2_with (first | (with_reducible refine wpList_load_mid rfl 32 _ rfl b o rfl (l0.map (Value.int .u8)) _ hra'.out Try.underlying32 rfl (sz_map hl'.out) ?_) | (with_reducible refine wpList_store_row rfl 32 _ _ rfl w.heap.size (ints .u8 l0) rfl rfl 32 (ints .u8 (zer 16)) (heap_alloc_last _ _) (sz_ints hl'.out) (sz_eq (zer_length 16) hl'.out) (ints_one _ _) ?_))
  clear hz harr h1
  go_loopw [7, 23] (fun v i wr => ∃ k : Nat, k ≤ n ∧ i = .int .i64 k ∧ wr.heap[w.heap.size]? = some (.cells (ints .u8 (itD k l0)) 32 (0, 0)) ∧ Kd.R (Kd.slice 5 (Kd.int .u8)) 22 wr (w.heap.size + 1) (fun _ => True) v (lists l0 k) ∧ Below w.heap.size w wr) (fun _ i _ => n - (intOf i).toNat)
  case atStart =>
    refine ⟨0, by omega, rfl, ?_, Kd.R_nil _ _ _ _ _, ?_⟩
    · exact setRow_heap _ _ (ints .u8 (zer 16)) _ _ _ (by ((repeat rw [heap_skip _ _ _ (by simp only [World.size_alloc]; omega)]); exact heap_at _ _ _ (by first | rfl | (simp only [World.size_alloc]))))
    · exact below_setRow ((Below.refl _ _).alloc (Nat.le_refl _) _) (Nat.le_refl _) _
  case round =>
    obtain ⟨k, hk, rfl, h6, hR, hb⟩ := hrel
    have hlen := itD_length k l0 hl'.out
    have hls := lists_succ l0 k
    have hit := itD_succ k l0
    have hll := lists_length l0 k
    obtain ⟨X, hX⟩ : ∃ X, X = itD k l0 := ⟨_, rfl⟩
    rw [← hX] at hlen h6 hls hit
    have hlen' := Lib.hid hlen
    have h6' := Lib.hid h6
    have hR' := Lib.hid hR
    have hb' := Lib.hid hb
    have hls' := Lib.hid hls
    have hit' := Lib.hid hit
    have hll' := Lib.hid hll
    have hglt := Lib.hid (lt_of_heap h6)
    clear hlen h6 hR hb hls hit hX hll
    by_cases hlt : k < n
    · go_wp2_with (first
        | (go_at_call 36; (with_reducible refine (told_any X hlen'.out _).mono ?_); rintro e w1 ⟨v1, rfl, hR, hb1⟩; obtain ⟨At, ct, rfl⟩ := Kd.R_slice hR; have h61 := Lib.hid (heap_below h6'.out hb1); have hb1' := Lib.hid (below_then hb'.out hb'.out.size hb1); have hN := Lib.hid (Kd.R_lower (Kd.R_newR hR hR'.out) (show w.heap.size + 1 ≤ _ from hglt.out)); have hO := Lib.hid (Kd.R_below hR'.out hb1); have hs1 := Lib.hid (show w.heap.size + 1 ≤ w1.heap.size from Nat.le_trans hglt.out hb1.size); clear hR hb1)
        | (at_builtin; refine Kd.R_append (Kd.slice 5 (Kd.int .u8)) (w0 := w1) (w.heap.size + 1) rfl (.tmp 25) (.tmp 28) 41 22 (.slice none 0 0) 24 rfl Try.underlying41 infoL rfl (by decide) (by decide) u7 (lists l0 k) X [.slice At X.length ct] (fun _ => True) (fun q => True ∧ some q ≠ u7.ownBlock) rfl rfl (Kd.M_row hN.out) (fun q hq => hq) (fun _ _ => trivial) hO.out (Below.refl _ _) hs1.out (by rw [hll'.out]; omega) ?_; intro v2 w2 hR2 hb2 hg2 hat2; have hR2' := Lib.hid hR2; have hb2' := Lib.hid (hb1'.out.trans (hb2.mono (Nat.le_succ _))); have h62 := Lib.hid ((hb2.block _ (Nat.lt_succ_self _)).trans h61.out); clear hR2 hb2 hg2 hat2 hN hO)
        | (go_at_call 35; (with_reducible refine (double_any X hlen'.out _).mono ?_); rintro e w3 ⟨rfl, hb3⟩; have h63 := Lib.hid (heap_below h62.out hb3); have hb3' := Lib.hid (below_then hb2'.out hb2'.out.size hb3); have hR3 := Lib.hid (Kd.R_below hR2'.out hb3); clear hb3)
        | (with_reducible refine wpList_load_row rfl 32 _ rfl w.heap.size rfl 32 (ints .u8 X) (0, 0) _ h6'.out Try.underlying32 rfl (sz_ints hlen'.out) ?_)
        | (with_reducible refine wpList_load_row rfl 32 _ rfl w.heap.size rfl 32 (ints .u8 X) (0, 0) _ h62.out Try.underlying32 rfl (sz_ints hlen'.out) ?_)
        | (with_reducible refine wpList_store_row rfl 32 _ _ rfl w.heap.size (ints .u8 (dblL X)) rfl rfl 32 (ints .u8 X) h63.out (sz_ints (dblL_length _)) (sz_eq hlen'.out (dblL_length _)) (ints_one _ _) ?_))
      go_roundw
      case rel =>
        refine ⟨k + 1, by omega, by go_num, ?_, ?_, ?_⟩
        · rw [hit'.out]; exact setRow_heap _ _ _ _ _ _ h63.out
        · rw [hls'.out]
          exact Kd.R_mono (Kd.R_move (Kd.R_bound hR3.out) (fun q hq => setRow_other _ _ _ _ (by have := hq.2.1; omega))) (fun _ _ => trivial)
        · exact below_setRow hb3'.out (Nat.le_refl _) _
      case measure => simp [intOf]; omega
    · obtain rfl : k = n := by omega
      go_wp2_with fail
      go_ret2
      exact ⟨_, rfl, Kd.R_lower hR'.out (Nat.le_succ _), hb'.out⟩
set_option maxHeartbeats 1000000 in
theorem list_no (A0 : Option Addr) (n0 c0 : Nat) (n : Int) (w : World) (h : n0 ≠ 16 ∨ n < 0 ∨ 256 < n) :
    Calls Try.prog 27 #[.slice A0 n0 c0, .int .i64 n] w fun e w' => e = .returned (.tuple #[.slice none 0 0, .int .i64 2]) ∧ Drawn0 w w' := by
  by_cases h0 : n0 = 16
  · subst h0
    have e0 : ((16 : Int) != 16) = false := rfl
    rcases h with h | h | h
    · exact absurd rfl h
    all_goals
      go_enter Try.func27, Try.ntmps27
      go_wp2
      go_ret2
      exact ⟨rfl, Drawn0.refl _⟩
  · have e0 : ((n0 : Int) != 16) = true := by simp; omega
    clear h h0
    go_enter Try.func27, Try.ntmps27
    go_wp2
    go_ret2
    exact ⟨rfl, Drawn0.refl _⟩
/-- A row of rows of bytes. -/
theorem CC_row {e : Nat} {w : World} {A : Option Addr} {n : Nat} {ls : List (List Int)} (h : Kd.C (Kd.slice e (Kd.int .u8)) w A n ls) (hn : 0 < n) :
    ∃ b o, A = some ⟨b, o, none⟩ ∧ ∀ j, j < n → ∃ Aj cj, w.cell? ⟨b, o + j, none⟩ = some (.slice Aj (ls.getD j []).length cj) ∧ (ls.getD j []).length ≤ cj ∧ Kd.C (Kd.int .u8) w Aj (ls.getD j []).length (ls.getD j []) := by
  have hg : ∀ j, j < n → ∃ ad Aj cj, A = some ad ∧ w.cell? (ad.add j) = some (.slice Aj (ls.getD j []).length cj) ∧ (ls.getD j []).length ≤ cj ∧ Kd.C (Kd.int .u8) w Aj (ls.getD j []).length (ls.getD j []) := by
    intro j hj
    obtain ⟨ad, c, hA, _, ⟨Aj, cj, rfl, hc, hC⟩, hcell⟩ := Kd.C_get h [] (j : Int) (by omega) (by omega)
    have := hcell 0 _ rfl
    rw [Int.toNat_natCast] at this hc hC
    refine ⟨ad, Aj, cj, hA, ?_, hc, hC⟩
    have e1 : j * (Kd.slice e (Kd.int .u8)).sz + 0 = j := by show j * 1 + 0 = j; omega
    rw [e1] at this
    exact this
  obtain ⟨ad, A0, c0, rfl, h0, _⟩ := hg 0 hn
  obtain ⟨b, o, s⟩ := ad
  have hs : s = none := by
    cases s with
    | none => rfl
    | some s =>
      simp [Addr.add, World.cell?] at h0
      split at h0 <;> simp at h0
  subst hs
  refine ⟨b, o, rfl, fun j hj => ?_⟩
  obtain ⟨ad, Aj, cj, he, hc, h1, h2⟩ := hg j hj
  obtain rfl := Option.some.inj he
  rw [Addr.add_mid] at hc
  exact ⟨Aj, cj, hc, h1, h2⟩
theorem double_bys (v : BitVec 128) (w : World) (A : Option Addr) (c : Nat) (h : Kd.C (Kd.int .u8) w A 16 (bys v)) (hc : 16 ≤ c) :
    Calls Try.prog 17 #[.slice A 16 c] w fun e w' => Word w w' e (dbl P128 v) := by
  have h1 := nepentheref08_Double.calls 201 A c (bys v) (bys (dbl P128 v)) w (by rw [bys_length]; exact h) (by rw [bys_length]; exact hc) (double_eq 201 (by decide) v)
  rw [bys_length] at h1
  refine h1.mono ?_
  rintro e w' ⟨u, rfl, hR, hb⟩
  exact of_R hR hb
set_option maxHeartbeats 4000000 in
set_option maxRecDepth 100000 in
theorem TwiceLists_walk (w : World) (A0 : Option Addr) (c0 : Nat) (b : List Int) (hc0 : b.length ≤ c0) (hr0 : Kd.C (Kd.int .u8) w A0 b.length b) (w0 : b.length ≤ 140737488351232 ∧ ∀ x ∈ b, (Lit.int .u8 x).wf = true) (n : Int) (wn : (Lit.int .i64 n).wf = true) :
    Calls Try.prog 9 #[.slice A0 b.length c0, .int .i64 n] w fun e w' => e = .returned (.bool true) ∧ Below w.heap.size w w' := by
  have hn := bounds_i64 wn
  by_cases hbad : b.length ≠ 16 ∨ n < 0 ∨ 256 < n
  · have hL := list_no A0 b.length c0 n w hbad
    have hL' := Lib.hid hL
    have hm := hr0.2.1
    clear hL hr0 hc0 w0
    by_cases h16 : b.length = 16
    · have e16 : ((b.length : Int) != 16) = false := by simp; omega
      have hcase : n < 0 ∨ 256 < n := by omega
      clear hbad h16
      rcases hcase with h | h
      all_goals
        go_enter Try.func9, Try.ntmps9
        go_wp2_with (first
          | (go_at_call 27; refine hL'.out.mono ?_; rintro e w1 ⟨rfl, hd⟩; have b1 := Lib.hid hd.below; clear hd)
          | (go_at_call 13; refine (awake_any _).mono ?_; rintro e w2 ⟨rfl, hb⟩; have b2 := Lib.hid (below_then b1.out b1.out.size hb); clear hb))
        go_ret
        exact ⟨rfl, b2.out⟩
    · have e16 : ((b.length : Int) != 16) = true := by simp; omega
      clear hbad h16
      go_enter Try.func9, Try.ntmps9
      go_wp2_with (first
        | (go_at_call 27; refine hL'.out.mono ?_; rintro e w1 ⟨rfl, hd⟩; have b1 := Lib.hid hd.below; clear hd)
        | (go_at_call 13; refine (awake_any _).mono ?_; rintro e w2 ⟨rfl, hb⟩; have b2 := Lib.hid (below_then b1.out b1.out.size hb); clear hb))
      go_ret
      exact ⟨rfl, b2.out⟩
  · obtain ⟨m, rfl⟩ := Int.eq_ofNat_of_zero_le (show 0 ≤ n by omega)
    have h16 : b.length = 16 := by omega
    have hm256 : m ≤ 256 := by omega
    obtain ⟨v, rfl⟩ := bys_of b h16 w0.2
    rw [bys_length] at hr0 hc0 ⊢
    have hL := list_ok A0 c0 (bys v) m w hr0 (bys_length v) hc0 hm256
    have hll := lists_length (bys v) m
    have hlg : ∀ j, j < m → (lists (bys v) m).getD j [] = bys (dbls P128 j v) := fun j hj => by rw [lists_get _ _ _ hj, itD_bys]
    obtain ⟨L, hLe⟩ : ∃ L, L = lists (bys v) m := ⟨_, rfl⟩
    rw [← hLe] at hL hll hlg
    have hL' := Lib.hid hL
    have hll' := Lib.hid hll
    have hlg' := Lib.hid hlg
    have hr0' := Lib.hid hr0
    have e16 : ((16 : Int) != 16) = false := rfl
    have emm : ((m : Int) != (m : Int)) = false := by simp
    clear hL hll hlg hLe hr0 w0 h16 hbad
    go_enter Try.func9, Try.ntmps9
    go_wp2_with (go_at_call 27; refine hL'.out.mono ?_; rintro e w1 ⟨vl, rfl, hR, hb⟩; obtain ⟨Al, cl, rfl⟩ := Kd.R_slice hR; have hCl := Lib.hid (Kd.R_reads' hR).2.2; have b1 := Lib.hid hb; rw [hll'.out]; rw [hll'.out] at hCl; clear hR hb)
    go_loopw [7, 8] (fun x i wr => ∃ (k : Nat) (Ax : Option Addr) (cx : Nat), k ≤ m ∧ i = .int .i64 k ∧ x = .slice Ax 16 cx ∧ 16 ≤ cx ∧ Kd.C (Kd.int .u8) wr Ax 16 (bys (dbls P128 k v)) ∧ Below w1.heap.size w1 wr) (fun _ i _ => m - (intOf i).toNat)
    case atStart => exact ⟨0, A0, c0, Nat.zero_le _, rfl, rfl, hc0, Kd.C_below hr0'.out b1.out, Below.refl _ _⟩
    case round =>
      obtain ⟨k, Ax, cx, hk, rfl, rfl, hcx, hCx, hbr⟩ := hrel
      have hCx' := Lib.hid hCx
      have hbr' := Lib.hid hbr
      clear hCx hbr
      by_cases hlt : k < m
      · obtain ⟨bb, oo, rfl, hrow⟩ := CC_row hCl.out (by omega)
        obtain ⟨Aj, cj, hcell, hcj, hCj⟩ := hrow k hlt
        rw [hlg'.out k hlt, bys_length] at hcell hcj hCj
        have hcell' := pw_cell_below hbr'.out hcell
        have hCj' := Lib.hid (Kd.C_below hCj hbr'.out)
        have hds : dbls P128 (k + 1) v = dbl P128 (dbls P128 k v) := dbls_succ' P128 k v
        obtain ⟨X, hX⟩ : ∃ X, X = dbls P128 k v := ⟨_, rfl⟩
        rw [← hX] at hCj' hCx' hds
        have hds' := Lib.hid hds
        clear hrow hcell hCj hX hds
        go_wp2_with (first
          | (go_at_call 16; refine (same_eq_bys X X rfl _ _ _ _ _ hCj'.out hcj hCx'.out hcx).mono ?_; rintro e w2 ⟨rfl, hd⟩; have hC2 := Lib.hid (Kd.C_below hCx'.out hd.below); have b2 := Lib.hid (below_then hbr'.out hbr'.out.size hd.below); clear hd)
          | (go_at_call 17; refine (double_bys X _ _ _ hC2.out hcx).mono ?_; rintro e w3 ⟨A3, c3, rfl, hc3, hC, hb⟩; have hC3 := Lib.hid hC; have b3 := Lib.hid (below_then b2.out b2.out.size hb); clear hC hb))
        go_roundw
        case rel => exact ⟨k + 1, A3, c3, by omega, by go_num, rfl, hc3, by rw [hds'.out]; exact hC3.out, b3.out⟩
        case measure => simp [intOf]; omega
      · obtain rfl : k = m := by omega
        go_wp2_with (go_at_call 13; refine (awake_any _).mono ?_; rintro e w2 ⟨rfl, hb⟩; have b2 := Lib.hid (below_then b1.out b1.out.size (below_then hbr'.out hbr'.out.size hb)); clear hb)
        go_ret
        exact ⟨rfl, b2.out⟩
end Go.Proofs.Ythmahaoadoeoaaa.Own
