/- DeriveBytes, DeriveBlocks, DeriveBegins, walked. -/
import Derived.Test.YtoojonapnifjoaaDerP
import Derived.Test.YtoojonapnifjoaaOpn
namespace Go.Proofs.Ytoojonapnifjoaa.Own
open Go.RowKit Go.Proofs.Ytoojonapnifjoaa.Arr Go.Proofs.Ytoojonapnifjoaa.QB Go.Proofs.YtoojonapnifjoaaW.PrintWords Go.Proofs.YtoojonapnifjoaaW.PrintLast Go.Proofs.YtoojonapnifjoaaW.PrintMore Go.Proofs.Ytoojonapnifjoaa.Opn
set_option linter.unusedVariables false
set_option linter.unusedSimpArgs false
theorem box_cells {W : World} {g : Nat} {s0 s1 : Value} {t : TypeId} (h : W.heap[g]? = some (.cells #[s0, s1] t (0, 0))) : W.cell? ⟨g, 0, none⟩ = some s0 ∧ W.cell? ⟨g, 1, none⟩ = some s1 :=
  ⟨by rw [cell_of_row W g 0 _ _ _ h]; rfl, by rw [cell_of_row W g 1 _ _ _ h]; rfl⟩
theorem text_of {w : World} {q : Nat} {txt : List (List Int)} {cs : Array Value} (h : txt.length = 2 ∧ VecK (Kd.slice q (Kd.int .u8)).K w txt cs.toList) (hw : ∀ x ∈ txt, x.length ≤ maxLen ∧ ∀ y ∈ x, (Lit.int .u8 y).wf = true) :
    ∃ A0 c0 A1 c1 pass salt, cs = #[.slice A0 pass.length c0, .slice A1 salt.length c1] ∧ pass.length ≤ c0 ∧ Kd.C (Kd.int .u8) w A0 pass.length pass ∧ salt.length ≤ c1 ∧ Kd.C (Kd.int .u8) w A1 salt.length salt ∧ (∀ x ∈ pass, byt x) ∧ ∀ x ∈ salt, byt x := by
  obtain ⟨hl, hv⟩ := h
  obtain ⟨pass, salt, rfl⟩ : ∃ a b, txt = [a, b] := by
    match txt, hl with
    | [a, b], _ => exact ⟨a, b, rfl⟩
  obtain ⟨k0, k1, he, ⟨A0, c0, rfl, hc0, hC0⟩, k2, k3, rfl, ⟨A1, c1, rfl, hc1, hC1⟩, rfl⟩ := hv
  refine ⟨A0, c0, A1, c1, pass, salt, ?_, hc0, hC0, hc1, hC1, byt_wf (hw pass (by simp)).2, byt_wf (hw salt (by simp)).2⟩
  apply Array.toList_inj.1
  rw [he]
  rfl
theorem light_any (pass salt : List Int) (r : Int) (b : Bool) (hb : lightB pass.length salt.length r = b) (A0 : Option Addr) (c0 : Nat) (A1 : Option Addr) (c1 : Nat) (w1 : World) (hC0 : Kd.C (Kd.int .u8) w1 A0 pass.length pass) (hc0 : pass.length ≤ c0) (hC1 : Kd.C (Kd.int .u8) w1 A1 salt.length salt) (hc1 : salt.length ≤ c1) :
    Calls Try.prog 36 #[.slice A0 pass.length c0, .slice A1 salt.length c1, .int .i64 r] w1 fun e w' => e = .returned (.bool b) ∧ Drawn0 w1 w' :=
  nepenthelaw04_light.calls A0 c0 pass A1 c1 salt r b w1 hC0 hc0 hC1 hc1 (by rw [light_eq, hb])
theorem rRight_any (pass : List Int) (r : Int) (b : Bool) (hb : rightB pass.length r = b) (A0 : Option Addr) (c0 : Nat) (w1 : World) (hC0 : Kd.C (Kd.int .u8) w1 A0 pass.length pass) (hc0 : pass.length ≤ c0) :
    Calls Try.prog 39 #[.slice A0 pass.length c0, .int .i64 r] w1 fun e w' => e = .returned (.bool b) ∧ Drawn0 w1 w' :=
  nepentheref04_Right.calls A0 c0 pass r b w1 hC0 hc0 (by rw [refRight_eq, hb])
theorem rBytes_any (pass salt : List Int) (hp : ∀ x ∈ pass, byt x) (hs : ∀ x ∈ salt, byt x) (hpl : pass.length ≤ 900) (hsl : salt.length ≤ 900) (r : Int) (hr1 : 1 ≤ r) (hr : r ≤ 1000) (n : Nat) (hn : n ≤ 1024) (A0 : Option Addr) (c0 : Nat) (A1 : Option Addr) (c1 : Nat) (w1 : World) (hC0 : Kd.C (Kd.int .u8) w1 A0 pass.length pass) (hc0 : pass.length ≤ c0) (hC1 : Kd.C (Kd.int .u8) w1 A1 salt.length salt) (hc1 : salt.length ≤ c1) :
    Calls Try.prog 40 #[.slice A0 pass.length c0, .slice A1 salt.length c1, .int .i64 r, .int .i64 n] w1 fun e w' => ∃ v, e = .returned v ∧ Fr w' w1.heap.size v (bytesD (blockL pass) salt r.toNat n) ∧ Below w1.heap.size w1 w' := by
  obtain ⟨m, rfl⟩ := Int.eq_ofNat_of_zero_le (show 0 ≤ r by omega)
  rw [Int.toNat_natCast]
  obtain ⟨k, hk⟩ := refDBytes_at pass salt hp hs hpl hsl m (by omega) (by omega) n hn
  exact (nepentheref04_Bytes.calls k A0 c0 pass A1 c1 salt m n _ w1 hC0 hc0 hC1 hc1 hk).mono fun e w' ⟨v, h1, h2, h3⟩ => ⟨v, h1, Fr.of_R h2, h3⟩
theorem rBlock_any (pass salt : List Int) (hp : ∀ x ∈ pass, byt x) (hs : ∀ x ∈ salt, byt x) (hpl : pass.length ≤ 900) (hsl : salt.length ≤ 900) (r : Int) (hr1 : 1 ≤ r) (hr : r ≤ 1000) (i : Int) (hi0 : 0 ≤ i) (hi1 : i ≤ 1000) (A0 : Option Addr) (c0 : Nat) (A1 : Option Addr) (c1 : Nat) (w1 : World) (hC0 : Kd.C (Kd.int .u8) w1 A0 pass.length pass) (hc0 : pass.length ≤ c0) (hC1 : Kd.C (Kd.int .u8) w1 A1 salt.length salt) (hc1 : salt.length ≤ c1) :
    Calls Try.prog 42 #[.slice A0 pass.length c0, .slice A1 salt.length c1, .int .i64 r, .int .i64 i] w1 fun e w' => ∃ v, e = .returned v ∧ Fr w' w1.heap.size v (blockD (blockL pass) salt r.toNat i) ∧ Below w1.heap.size w1 w' := by
  obtain ⟨m, rfl⟩ := Int.eq_ofNat_of_zero_le (show 0 ≤ r by omega)
  rw [Int.toNat_natCast]
  obtain ⟨k, hk⟩ : ∃ k : Nat, 6000 ≤ k := ⟨6000, Nat.le_refl _⟩
  exact (nepentheref04_Block.calls k A0 c0 pass A1 c1 salt m i _ w1 hC0 hc0 hC1 hc1 (refDBlock_at pass salt hp hs hpl hsl m (by omega) (by omega) i hi0 hi1 k hk)).mono fun e w' ⟨v, h1, h2, h3⟩ => ⟨v, h1, Fr.of_R h2, h3⟩

set_option maxHeartbeats 4000000 in
set_option maxRecDepth 100000 in
theorem DeriveBytes_law (w : World) (A0 : Option Addr) (c0 : Nat) (A1 : Option Addr) (c1 : Nat) (pass salt : List Int) (hc0 : pass.length ≤ c0) (hC0 : Kd.C (Kd.int .u8) w A0 pass.length pass) (hc1 : salt.length ≤ c1) (hC1 : Kd.C (Kd.int .u8) w A1 salt.length salt) (hp : ∀ x ∈ pass, byt x) (hs : ∀ x ∈ salt, byt x) (r n : Int) (wn0 : (Lit.int .i64 n).wf = true) :
    Calls Try.prog 11 #[.agg #[.slice A0 pass.length c0, .slice A1 salt.length c1], .int .i64 r, .int .i64 n] w fun e w' => e = .returned (.bool true) ∧ Below w.heap.size w w' := by
  have wn : -9223372036854775808 ≤ n ∧ n ≤ 9223372036854775807 := bounds_i64 wn0
  have hl0 : lightB pass.length salt.length r = false ∨ lightB pass.length salt.length r = true := by cases lightB pass.length salt.length r <;> simp
  rcases hl0 with hl | hl
  · have hL := fun w1 h0 h1 => light_any pass salt r false hl A0 c0 A1 c1 w1 h0 hc0 h1 hc1
    have hL' := Lib.hid hL
    clear hL
    have hC0' := Lib.hid hC0
    have hC1' := Lib.hid hC1
    clear hC0 hC1 hc0 hc1 hp hs hl
    go_enter Try.func11, Try.ntmps11
    go_wp2_with (first
      | (go_at_call 36; refine (hL'.out _ (Kd.C_below hC0'.out (below_alloc (Below.refl w.heap.size w) _)) (Kd.C_below hC1'.out (below_alloc (Below.refl w.heap.size w) _))).mono ?_; clear hL'; rintro e w1 ⟨rfl, hd⟩; have hb := hd.below; clear hd; have b1 := Lib.hid (below_step (below_alloc (Below.refl w.heap.size w) _) hb); have o1 := Lib.hid (heap_below (heap_at _ _ _ rfl) hb); obtain ⟨x10, x11⟩ := box_cells o1.out; clear hb)
      | (go_at_call 37; refine (dAwake_any _).mono ?_; clear x10 x11; rintro e w2 ⟨rfl, hb⟩; have b2 := Lib.hid (below_step b1.out hb); have o2 := Lib.hid (heap_below o1.out hb); obtain ⟨x20, x21⟩ := box_cells o2.out; clear hb b1 o1))
    go_ret
    exact ⟨rfl, b2.out⟩
  · by_cases hn : 100 < n ∧ n ≤ 1024
    · obtain ⟨hn1, hn2⟩ := hn
      have hL := fun w1 h0 h1 => light_any pass salt r true hl A0 c0 A1 c1 w1 h0 hc0 h1 hc1
      have hL' := Lib.hid hL
      clear hL
      have hC0' := Lib.hid hC0
      have hC1' := Lib.hid hC1
      clear hC0 hC1 hc0 hc1 hp hs hl
      go_enter Try.func11, Try.ntmps11
      go_wp2_with (first
        | (go_at_call 36; refine (hL'.out _ (Kd.C_below hC0'.out (below_alloc (Below.refl w.heap.size w) _)) (Kd.C_below hC1'.out (below_alloc (Below.refl w.heap.size w) _))).mono ?_; clear hL'; rintro e w1 ⟨rfl, hd⟩; have hb := hd.below; clear hd; have b1 := Lib.hid (below_step (below_alloc (Below.refl w.heap.size w) _) hb); have o1 := Lib.hid (heap_below (heap_at _ _ _ rfl) hb); obtain ⟨x10, x11⟩ := box_cells o1.out; clear hb)
        | (go_at_call 37; refine (dAwake_any _).mono ?_; clear x10 x11; rintro e w2 ⟨rfl, hb⟩; have b2 := Lib.hid (below_step b1.out hb); have o2 := Lib.hid (heap_below o1.out hb); obtain ⟨x20, x21⟩ := box_cells o2.out; clear hb b1 o1))
      go_ret
      exact ⟨rfl, b2.out⟩
    · have hr0 : rightB pass.length r = false ∨ rightB pass.length r = true := by cases rightB pass.length r <;> simp
      have hn3 : n ≤ 100 ∨ 1024 < n := by omega
      obtain ⟨hpl, hsl, -⟩ := light_of hl
      rcases hr0 with hr | hr
      · rcases hn3 with hn3 | hn3
        · have hL := fun w1 h0 h1 => light_any pass salt r true hl A0 c0 A1 c1 w1 h0 hc0 h1 hc1
          have hL' := Lib.hid hL
          clear hL
          have hR := fun w1 h0 => rRight_any pass r false hr A0 c0 w1 h0 hc0
          have hR' := Lib.hid hR
          clear hR
          clear hn
          have hB := fun w1 h0 => dBytes_no A0 c0 pass w1 h0 hc0 (.slice A1 salt.length c1) r n (by rw [hr]; simp; try omega)
          have hB' := Lib.hid hB
          clear hB
          have hC0' := Lib.hid hC0
          have hC1' := Lib.hid hC1
          clear hC0 hC1 hc0 hc1 hp hs hl hr
          go_enter Try.func11, Try.ntmps11
          go_wp2_with (first
            | (go_at_call 36; refine (hL'.out _ (Kd.C_below hC0'.out (below_alloc (Below.refl w.heap.size w) _)) (Kd.C_below hC1'.out (below_alloc (Below.refl w.heap.size w) _))).mono ?_; clear hL'; rintro e w1 ⟨rfl, hd⟩; have hb := hd.below; clear hd; have b1 := Lib.hid (below_step (below_alloc (Below.refl w.heap.size w) _) hb); have o1 := Lib.hid (heap_below (heap_at _ _ _ rfl) hb); obtain ⟨x10, x11⟩ := box_cells o1.out; clear hb)
            | (go_at_call 38; refine (hB'.out _ (Kd.C_below hC0'.out b1.out)).mono ?_; clear x10 x11; rintro e w2 ⟨rfl, hd⟩; have hb := hd.below; clear hd; have b2 := Lib.hid (below_step b1.out hb); have o2 := Lib.hid (heap_below o1.out hb); obtain ⟨x20, x21⟩ := box_cells o2.out; clear hb b1 o1)
            | (go_at_call 39; refine (hR'.out _ (Kd.C_below hC0'.out b2.out)).mono ?_; clear hR'; clear x20 x21; rintro e w3 ⟨rfl, hd⟩; have hb := hd.below; clear hd; have b3 := Lib.hid (below_step b2.out hb); have o3 := Lib.hid (heap_below o2.out hb); obtain ⟨x30, x31⟩ := box_cells o3.out; clear hb b2 o2)
            | (go_at_call 37; refine (dAwake_any _).mono ?_; clear x30 x31; rintro e w4 ⟨rfl, hb⟩; have b4 := Lib.hid (below_step b3.out hb); have o4 := Lib.hid (heap_below o3.out hb); obtain ⟨x40, x41⟩ := box_cells o4.out; clear hb b3 o3))
          go_ret
          exact ⟨rfl, b4.out⟩
        · have hL := fun w1 h0 h1 => light_any pass salt r true hl A0 c0 A1 c1 w1 h0 hc0 h1 hc1
          have hL' := Lib.hid hL
          clear hL
          have hR := fun w1 h0 => rRight_any pass r false hr A0 c0 w1 h0 hc0
          have hR' := Lib.hid hR
          clear hR
          clear hn
          have hB := fun w1 h0 => dBytes_no A0 c0 pass w1 h0 hc0 (.slice A1 salt.length c1) r n (by rw [hr]; simp; try omega)
          have hB' := Lib.hid hB
          clear hB
          have hC0' := Lib.hid hC0
          have hC1' := Lib.hid hC1
          clear hC0 hC1 hc0 hc1 hp hs hl hr
          go_enter Try.func11, Try.ntmps11
          go_wp2_with (first
            | (go_at_call 36; refine (hL'.out _ (Kd.C_below hC0'.out (below_alloc (Below.refl w.heap.size w) _)) (Kd.C_below hC1'.out (below_alloc (Below.refl w.heap.size w) _))).mono ?_; clear hL'; rintro e w1 ⟨rfl, hd⟩; have hb := hd.below; clear hd; have b1 := Lib.hid (below_step (below_alloc (Below.refl w.heap.size w) _) hb); have o1 := Lib.hid (heap_below (heap_at _ _ _ rfl) hb); obtain ⟨x10, x11⟩ := box_cells o1.out; clear hb)
            | (go_at_call 38; refine (hB'.out _ (Kd.C_below hC0'.out b1.out)).mono ?_; clear x10 x11; rintro e w2 ⟨rfl, hd⟩; have hb := hd.below; clear hd; have b2 := Lib.hid (below_step b1.out hb); have o2 := Lib.hid (heap_below o1.out hb); obtain ⟨x20, x21⟩ := box_cells o2.out; clear hb b1 o1)
            | (go_at_call 39; refine (hR'.out _ (Kd.C_below hC0'.out b2.out)).mono ?_; clear hR'; clear x20 x21; rintro e w3 ⟨rfl, hd⟩; have hb := hd.below; clear hd; have b3 := Lib.hid (below_step b2.out hb); have o3 := Lib.hid (heap_below o2.out hb); obtain ⟨x30, x31⟩ := box_cells o3.out; clear hb b2 o2)
            | (go_at_call 37; refine (dAwake_any _).mono ?_; clear x30 x31; rintro e w4 ⟨rfl, hb⟩; have b4 := Lib.hid (below_step b3.out hb); have o4 := Lib.hid (heap_below o3.out hb); obtain ⟨x40, x41⟩ := box_cells o4.out; clear hb b3 o3))
          go_ret
          exact ⟨rfl, b4.out⟩
      · by_cases hneg : n < 0
        · have hL := fun w1 h0 h1 => light_any pass salt r true hl A0 c0 A1 c1 w1 h0 hc0 h1 hc1
          have hL' := Lib.hid hL
          clear hL
          have hR := fun w1 h0 => rRight_any pass r true hr A0 c0 w1 h0 hc0
          have hR' := Lib.hid hR
          clear hR
          clear hn hn3
          have hB := fun w1 h0 => dBytes_no A0 c0 pass w1 h0 hc0 (.slice A1 salt.length c1) r n (by rw [hr]; simp; try omega)
          have hB' := Lib.hid hB
          clear hB
          have hC0' := Lib.hid hC0
          have hC1' := Lib.hid hC1
          clear hC0 hC1 hc0 hc1 hp hs hl hr
          go_enter Try.func11, Try.ntmps11
          go_wp2_with (first
            | (go_at_call 36; refine (hL'.out _ (Kd.C_below hC0'.out (below_alloc (Below.refl w.heap.size w) _)) (Kd.C_below hC1'.out (below_alloc (Below.refl w.heap.size w) _))).mono ?_; clear hL'; rintro e w1 ⟨rfl, hd⟩; have hb := hd.below; clear hd; have b1 := Lib.hid (below_step (below_alloc (Below.refl w.heap.size w) _) hb); have o1 := Lib.hid (heap_below (heap_at _ _ _ rfl) hb); obtain ⟨x10, x11⟩ := box_cells o1.out; clear hb)
            | (go_at_call 38; refine (hB'.out _ (Kd.C_below hC0'.out b1.out)).mono ?_; clear x10 x11; rintro e w2 ⟨rfl, hd⟩; have hb := hd.below; clear hd; have b2 := Lib.hid (below_step b1.out hb); have o2 := Lib.hid (heap_below o1.out hb); obtain ⟨x20, x21⟩ := box_cells o2.out; clear hb b1 o1)
            | (go_at_call 39; refine (hR'.out _ (Kd.C_below hC0'.out b2.out)).mono ?_; clear hR'; clear x20 x21; rintro e w3 ⟨rfl, hd⟩; have hb := hd.below; clear hd; have b3 := Lib.hid (below_step b2.out hb); have o3 := Lib.hid (heap_below o2.out hb); obtain ⟨x30, x31⟩ := box_cells o3.out; clear hb b2 o2)
            | (go_at_call 37; refine (dAwake_any _).mono ?_; clear x30 x31; rintro e w4 ⟨rfl, hb⟩; have b4 := Lib.hid (below_step b3.out hb); have o4 := Lib.hid (heap_below o3.out hb); obtain ⟨x40, x41⟩ := box_cells o4.out; clear hb b3 o3))
          go_ret
          exact ⟨rfl, b4.out⟩
        · rcases hn3 with hn3 | hn3
          · have hL := fun w1 h0 h1 => light_any pass salt r true hl A0 c0 A1 c1 w1 h0 hc0 h1 hc1
            have hL' := Lib.hid hL
            clear hL
            have hR := fun w1 h0 => rRight_any pass r true hr A0 c0 w1 h0 hc0
            have hR' := Lib.hid hR
            clear hR
            clear hn
            obtain ⟨hrp, hr1, hr2⟩ := right_of hr
            obtain ⟨m, rfl⟩ := Int.eq_ofNat_of_zero_le (show 0 ≤ n by omega)
            have hB := fun w1 h0 h1 => dBytes_ok A0 c0 pass w1 h0 hc0 A1 c1 salt h1 hc1 (by omega) r m hr (by omega)
            have hQ := fun w1 h0 h1 => rBytes_any pass salt hp hs (by omega) (by omega) r hr1 hr2 m (by omega) A0 c0 A1 c1 w1 h0 hc0 h1 hc1
            have hDl := bytesD_length (blockL pass) salt r.toNat m (by omega)
            obtain ⟨D, hD⟩ : ∃ D, D = bytesD (blockL pass) salt r.toNat m := ⟨_, rfl⟩
            rw [← hD] at hB hQ hDl
            have hS := fun w1 A c A' c' => same_self D (by omega) w1 A c A' c'
            clear hD
            have hB' := Lib.hid hB
            clear hB
            have hQ' := Lib.hid hQ
            clear hQ
            have hS' := Lib.hid hS
            clear hS
            have hDl' := Lib.hid hDl
            clear hDl
            have hC0' := Lib.hid hC0
            have hC1' := Lib.hid hC1
            clear hC0 hC1 hc0 hc1 hp hs hl hr
            go_enter Try.func11, Try.ntmps11
            go_wp2_with (first
              | (go_at_call 36; refine (hL'.out _ (Kd.C_below hC0'.out (below_alloc (Below.refl w.heap.size w) _)) (Kd.C_below hC1'.out (below_alloc (Below.refl w.heap.size w) _))).mono ?_; clear hL'; rintro e w1 ⟨rfl, hd⟩; have hb := hd.below; clear hd; have b1 := Lib.hid (below_step (below_alloc (Below.refl w.heap.size w) _) hb); have o1 := Lib.hid (heap_below (heap_at _ _ _ rfl) hb); obtain ⟨x10, x11⟩ := box_cells o1.out; clear hb)
              | (go_at_call 38; refine (hB'.out _ (Kd.C_below hC0'.out b1.out) (Kd.C_below hC1'.out b1.out)).mono ?_; clear hB'; clear x10 x11; rintro e w2 ⟨v, rfl, ⟨AX, cX, hv, hcX, hC, hf⟩, hb⟩; subst hv; have CX_2 := Lib.hid hC; clear hC hf; have b2 := Lib.hid (below_step b1.out hb); have o2 := Lib.hid (heap_below o1.out hb); obtain ⟨x20, x21⟩ := box_cells o2.out; clear hb b1 o1)
              | (go_at_call 39; refine (hR'.out _ (Kd.C_below hC0'.out b2.out)).mono ?_; clear hR'; clear x20 x21; rintro e w3 ⟨rfl, hd⟩; have hb := hd.below; clear hd; have CX_3 := Lib.hid (Kd.C_below CX_2.out hb); have b3 := Lib.hid (below_step b2.out hb); have o3 := Lib.hid (heap_below o2.out hb); obtain ⟨x30, x31⟩ := box_cells o3.out; clear hb b2 o2 CX_2)
              | (go_at_call 40; refine (hQ'.out _ (Kd.C_below hC0'.out b3.out) (Kd.C_below hC1'.out b3.out)).mono ?_; clear hQ'; clear x30 x31; rintro e w4 ⟨v, rfl, ⟨AY, cY, hv, hcY, hC, hf⟩, hb⟩; subst hv; have CY_4 := Lib.hid hC; clear hC hf; have CX_4 := Lib.hid (Kd.C_below CX_3.out hb); have b4 := Lib.hid (below_step b3.out hb); have o4 := Lib.hid (heap_below o3.out hb); obtain ⟨x40, x41⟩ := box_cells o4.out; clear hb b3 o3 CX_3)
              | (go_at_call 16; refine (hS'.out _ _ _ _ _ CX_4.out (by assumption) CY_4.out (by assumption)).mono ?_; clear x40 x41; rintro e w5 ⟨rfl, hd⟩; have hb := hd.below; clear hd; have CX_5 := Lib.hid (Kd.C_below CX_4.out hb); have CY_5 := Lib.hid (Kd.C_below CY_4.out hb); have b5 := Lib.hid (below_step b4.out hb); have o5 := Lib.hid (heap_below o4.out hb); obtain ⟨x50, x51⟩ := box_cells o5.out; clear hb b4 o4 CX_4 CY_4)
              | (go_at_call 37; refine (dAwake_any _).mono ?_; clear x50 x51; rintro e w6 ⟨rfl, hb⟩; have CX_6 := Lib.hid (Kd.C_below CX_5.out hb); have CY_6 := Lib.hid (Kd.C_below CY_5.out hb); have b6 := Lib.hid (below_step b5.out hb); have o6 := Lib.hid (heap_below o5.out hb); obtain ⟨x60, x61⟩ := box_cells o6.out; clear hb b5 o5 CX_5 CY_5))
            go_ret
            exact ⟨rfl, b6.out⟩
          · have hL := fun w1 h0 h1 => light_any pass salt r true hl A0 c0 A1 c1 w1 h0 hc0 h1 hc1
            have hL' := Lib.hid hL
            clear hL
            have hR := fun w1 h0 => rRight_any pass r true hr A0 c0 w1 h0 hc0
            have hR' := Lib.hid hR
            clear hR
            clear hn
            have hB := fun w1 h0 => dBytes_no A0 c0 pass w1 h0 hc0 (.slice A1 salt.length c1) r n (by rw [hr]; simp; try omega)
            have hB' := Lib.hid hB
            clear hB
            have hC0' := Lib.hid hC0
            have hC1' := Lib.hid hC1
            clear hC0 hC1 hc0 hc1 hp hs hl hr
            go_enter Try.func11, Try.ntmps11
            go_wp2_with (first
              | (go_at_call 36; refine (hL'.out _ (Kd.C_below hC0'.out (below_alloc (Below.refl w.heap.size w) _)) (Kd.C_below hC1'.out (below_alloc (Below.refl w.heap.size w) _))).mono ?_; clear hL'; rintro e w1 ⟨rfl, hd⟩; have hb := hd.below; clear hd; have b1 := Lib.hid (below_step (below_alloc (Below.refl w.heap.size w) _) hb); have o1 := Lib.hid (heap_below (heap_at _ _ _ rfl) hb); obtain ⟨x10, x11⟩ := box_cells o1.out; clear hb)
              | (go_at_call 38; refine (hB'.out _ (Kd.C_below hC0'.out b1.out)).mono ?_; clear x10 x11; rintro e w2 ⟨rfl, hd⟩; have hb := hd.below; clear hd; have b2 := Lib.hid (below_step b1.out hb); have o2 := Lib.hid (heap_below o1.out hb); obtain ⟨x20, x21⟩ := box_cells o2.out; clear hb b1 o1)
              | (go_at_call 39; refine (hR'.out _ (Kd.C_below hC0'.out b2.out)).mono ?_; clear hR'; clear x20 x21; rintro e w3 ⟨rfl, hd⟩; have hb := hd.below; clear hd; have b3 := Lib.hid (below_step b2.out hb); have o3 := Lib.hid (heap_below o2.out hb); obtain ⟨x30, x31⟩ := box_cells o3.out; clear hb b2 o2)
              | (go_at_call 37; refine (dAwake_any _).mono ?_; clear x30 x31; rintro e w4 ⟨rfl, hb⟩; have b4 := Lib.hid (below_step b3.out hb); have o4 := Lib.hid (heap_below o3.out hb); obtain ⟨x40, x41⟩ := box_cells o4.out; clear hb b3 o3))
            go_ret
            exact ⟨rfl, b4.out⟩

set_option maxHeartbeats 4000000 in
set_option maxRecDepth 100000 in
theorem DeriveBlocks_law (w : World) (A0 : Option Addr) (c0 : Nat) (A1 : Option Addr) (c1 : Nat) (pass salt : List Int) (hc0 : pass.length ≤ c0) (hC0 : Kd.C (Kd.int .u8) w A0 pass.length pass) (hc1 : salt.length ≤ c1) (hC1 : Kd.C (Kd.int .u8) w A1 salt.length salt) (hp : ∀ x ∈ pass, byt x) (hs : ∀ x ∈ salt, byt x) (r i : Int) (wn0 : (Lit.int .i64 i).wf = true) :
    Calls Try.prog 13 #[.agg #[.slice A0 pass.length c0, .slice A1 salt.length c1], .int .i64 r, .int .i64 i] w fun e w' => e = .returned (.bool true) ∧ Below w.heap.size w w' := by
  have wn : -9223372036854775808 ≤ i ∧ i ≤ 9223372036854775807 := bounds_i64 wn0
  have hl0 : lightB pass.length salt.length r = false ∨ lightB pass.length salt.length r = true := by cases lightB pass.length salt.length r <;> simp
  rcases hl0 with hl | hl
  · have hL := fun w1 h0 h1 => light_any pass salt r false hl A0 c0 A1 c1 w1 h0 hc0 h1 hc1
    have hL' := Lib.hid hL
    clear hL
    have hC0' := Lib.hid hC0
    have hC1' := Lib.hid hC1
    clear hC0 hC1 hc0 hc1 hp hs hl
    go_enter Try.func13, Try.ntmps13
    go_wp2_with (first
      | (go_at_call 36; refine (hL'.out _ (Kd.C_below hC0'.out (below_alloc (Below.refl w.heap.size w) _)) (Kd.C_below hC1'.out (below_alloc (Below.refl w.heap.size w) _))).mono ?_; clear hL'; rintro e w1 ⟨rfl, hd⟩; have hb := hd.below; clear hd; have b1 := Lib.hid (below_step (below_alloc (Below.refl w.heap.size w) _) hb); have o1 := Lib.hid (heap_below (heap_at _ _ _ rfl) hb); obtain ⟨x10, x11⟩ := box_cells o1.out; clear hb)
      | (go_at_call 37; refine (dAwake_any _).mono ?_; clear x10 x11; rintro e w2 ⟨rfl, hb⟩; have b2 := Lib.hid (below_step b1.out hb); have o2 := Lib.hid (heap_below o1.out hb); obtain ⟨x20, x21⟩ := box_cells o2.out; clear hb b1 o1))
    go_ret
    exact ⟨rfl, b2.out⟩
  · have hr0 : rightB pass.length r = false ∨ rightB pass.length r = true := by cases rightB pass.length r <;> simp
    obtain ⟨hpl, hsl, -⟩ := light_of hl
    rcases hr0 with hr | hr
    · have hL := fun w1 h0 h1 => light_any pass salt r true hl A0 c0 A1 c1 w1 h0 hc0 h1 hc1
      have hL' := Lib.hid hL
      clear hL
      have hR := fun w1 h0 => rRight_any pass r false hr A0 c0 w1 h0 hc0
      have hR' := Lib.hid hR
      clear hR
      have hB := fun w1 h0 => dBlock_no A0 c0 pass w1 h0 hc0 (.slice A1 salt.length c1) r i (by rw [hr]; simp; try omega)
      have hB' := Lib.hid hB
      clear hB
      have hC0' := Lib.hid hC0
      have hC1' := Lib.hid hC1
      clear hC0 hC1 hc0 hc1 hp hs hl hr
      go_enter Try.func13, Try.ntmps13
      go_wp2_with (first
        | (go_at_call 36; refine (hL'.out _ (Kd.C_below hC0'.out (below_alloc (Below.refl w.heap.size w) _)) (Kd.C_below hC1'.out (below_alloc (Below.refl w.heap.size w) _))).mono ?_; clear hL'; rintro e w1 ⟨rfl, hd⟩; have hb := hd.below; clear hd; have b1 := Lib.hid (below_step (below_alloc (Below.refl w.heap.size w) _) hb); have o1 := Lib.hid (heap_below (heap_at _ _ _ rfl) hb); obtain ⟨x10, x11⟩ := box_cells o1.out; clear hb)
        | (go_at_call 41; refine (hB'.out _ (Kd.C_below hC0'.out b1.out)).mono ?_; clear x10 x11; rintro e w2 ⟨rfl, hd⟩; have hb := hd.below; clear hd; have b2 := Lib.hid (below_step b1.out hb); have o2 := Lib.hid (heap_below o1.out hb); obtain ⟨x20, x21⟩ := box_cells o2.out; clear hb b1 o1)
        | (go_at_call 39; refine (hR'.out _ (Kd.C_below hC0'.out b2.out)).mono ?_; clear hR'; clear x20 x21; rintro e w3 ⟨rfl, hd⟩; have hb := hd.below; clear hd; have b3 := Lib.hid (below_step b2.out hb); have o3 := Lib.hid (heap_below o2.out hb); obtain ⟨x30, x31⟩ := box_cells o3.out; clear hb b2 o2)
        | (go_at_call 37; refine (dAwake_any _).mono ?_; clear x30 x31; rintro e w4 ⟨rfl, hb⟩; have b4 := Lib.hid (below_step b3.out hb); have o4 := Lib.hid (heap_below o3.out hb); obtain ⟨x40, x41⟩ := box_cells o4.out; clear hb b3 o3))
      go_ret
      exact ⟨rfl, b4.out⟩
    · rcases (show i < 1 ∨ 32 < i ∨ (1 ≤ i ∧ i ≤ 32) by omega) with h1 | h1 | ⟨h1, h2⟩
      · have hL := fun w1 h0 h1 => light_any pass salt r true hl A0 c0 A1 c1 w1 h0 hc0 h1 hc1
        have hL' := Lib.hid hL
        clear hL
        have hR := fun w1 h0 => rRight_any pass r true hr A0 c0 w1 h0 hc0
        have hR' := Lib.hid hR
        clear hR
        have hB := fun w1 h0 => dBlock_no A0 c0 pass w1 h0 hc0 (.slice A1 salt.length c1) r i (by rw [hr]; simp; try omega)
        have hB' := Lib.hid hB
        clear hB
        have hC0' := Lib.hid hC0
        have hC1' := Lib.hid hC1
        clear hC0 hC1 hc0 hc1 hp hs hl hr
        go_enter Try.func13, Try.ntmps13
        go_wp2_with (first
          | (go_at_call 36; refine (hL'.out _ (Kd.C_below hC0'.out (below_alloc (Below.refl w.heap.size w) _)) (Kd.C_below hC1'.out (below_alloc (Below.refl w.heap.size w) _))).mono ?_; clear hL'; rintro e w1 ⟨rfl, hd⟩; have hb := hd.below; clear hd; have b1 := Lib.hid (below_step (below_alloc (Below.refl w.heap.size w) _) hb); have o1 := Lib.hid (heap_below (heap_at _ _ _ rfl) hb); obtain ⟨x10, x11⟩ := box_cells o1.out; clear hb)
          | (go_at_call 41; refine (hB'.out _ (Kd.C_below hC0'.out b1.out)).mono ?_; clear x10 x11; rintro e w2 ⟨rfl, hd⟩; have hb := hd.below; clear hd; have b2 := Lib.hid (below_step b1.out hb); have o2 := Lib.hid (heap_below o1.out hb); obtain ⟨x20, x21⟩ := box_cells o2.out; clear hb b1 o1)
          | (go_at_call 39; refine (hR'.out _ (Kd.C_below hC0'.out b2.out)).mono ?_; clear hR'; clear x20 x21; rintro e w3 ⟨rfl, hd⟩; have hb := hd.below; clear hd; have b3 := Lib.hid (below_step b2.out hb); have o3 := Lib.hid (heap_below o2.out hb); obtain ⟨x30, x31⟩ := box_cells o3.out; clear hb b2 o2)
          | (go_at_call 37; refine (dAwake_any _).mono ?_; clear x30 x31; rintro e w4 ⟨rfl, hb⟩; have b4 := Lib.hid (below_step b3.out hb); have o4 := Lib.hid (heap_below o3.out hb); obtain ⟨x40, x41⟩ := box_cells o4.out; clear hb b3 o3))
        go_ret
        exact ⟨rfl, b4.out⟩
      · have hL := fun w1 h0 h1 => light_any pass salt r true hl A0 c0 A1 c1 w1 h0 hc0 h1 hc1
        have hL' := Lib.hid hL
        clear hL
        have hR := fun w1 h0 => rRight_any pass r true hr A0 c0 w1 h0 hc0
        have hR' := Lib.hid hR
        clear hR
        have hB := fun w1 h0 => dBlock_no A0 c0 pass w1 h0 hc0 (.slice A1 salt.length c1) r i (by rw [hr]; simp; try omega)
        have hB' := Lib.hid hB
        clear hB
        have hC0' := Lib.hid hC0
        have hC1' := Lib.hid hC1
        clear hC0 hC1 hc0 hc1 hp hs hl hr
        go_enter Try.func13, Try.ntmps13
        go_wp2_with (first
          | (go_at_call 36; refine (hL'.out _ (Kd.C_below hC0'.out (below_alloc (Below.refl w.heap.size w) _)) (Kd.C_below hC1'.out (below_alloc (Below.refl w.heap.size w) _))).mono ?_; clear hL'; rintro e w1 ⟨rfl, hd⟩; have hb := hd.below; clear hd; have b1 := Lib.hid (below_step (below_alloc (Below.refl w.heap.size w) _) hb); have o1 := Lib.hid (heap_below (heap_at _ _ _ rfl) hb); obtain ⟨x10, x11⟩ := box_cells o1.out; clear hb)
          | (go_at_call 41; refine (hB'.out _ (Kd.C_below hC0'.out b1.out)).mono ?_; clear x10 x11; rintro e w2 ⟨rfl, hd⟩; have hb := hd.below; clear hd; have b2 := Lib.hid (below_step b1.out hb); have o2 := Lib.hid (heap_below o1.out hb); obtain ⟨x20, x21⟩ := box_cells o2.out; clear hb b1 o1)
          | (go_at_call 39; refine (hR'.out _ (Kd.C_below hC0'.out b2.out)).mono ?_; clear hR'; clear x20 x21; rintro e w3 ⟨rfl, hd⟩; have hb := hd.below; clear hd; have b3 := Lib.hid (below_step b2.out hb); have o3 := Lib.hid (heap_below o2.out hb); obtain ⟨x30, x31⟩ := box_cells o3.out; clear hb b2 o2)
          | (go_at_call 37; refine (dAwake_any _).mono ?_; clear x30 x31; rintro e w4 ⟨rfl, hb⟩; have b4 := Lib.hid (below_step b3.out hb); have o4 := Lib.hid (heap_below o3.out hb); obtain ⟨x40, x41⟩ := box_cells o4.out; clear hb b3 o3))
        go_ret
        exact ⟨rfl, b4.out⟩
      · have hL := fun w1 h0 h1 => light_any pass salt r true hl A0 c0 A1 c1 w1 h0 hc0 h1 hc1
        have hL' := Lib.hid hL
        clear hL
        have hR := fun w1 h0 => rRight_any pass r true hr A0 c0 w1 h0 hc0
        have hR' := Lib.hid hR
        clear hR
        obtain ⟨hrp, hr1, hr2⟩ := right_of hr
        have hB := fun w1 h0 h1_ => (dBlock_ok A0 c0 pass w1 h0 hc0 A1 c1 salt h1_ hc1 (by omega) r i hr h1 h2).mono fun e w' ⟨v, q1, q2, q3⟩ => (⟨v, q1, Fr.of_R q2, q3⟩ : ∃ v, e = Ending.returned (.tuple #[v, .int .i64 0]) ∧ Fr w' w1.heap.size v (blockD (blockL pass) salt r.toNat i) ∧ Below w1.heap.size w1 w')
        have hQ := fun w1 h0 h1_ => rBlock_any pass salt hp hs (by omega) (by omega) r hr1 hr2 i (by omega) (by omega) A0 c0 A1 c1 w1 h0 hc0 h1_ hc1
        have hDl := blockD_length (blockL pass) salt r.toNat i
        obtain ⟨D, hD⟩ : ∃ D, D = blockD (blockL pass) salt r.toNat i := ⟨_, rfl⟩
        rw [← hD] at hB hQ hDl
        have hS := fun w1 A c A' c' => same_self D (by omega) w1 A c A' c'
        clear hD
        have hB' := Lib.hid hB
        clear hB
        have hQ' := Lib.hid hQ
        clear hQ
        have hS' := Lib.hid hS
        clear hS
        have hDl' := Lib.hid hDl
        clear hDl
        have hC0' := Lib.hid hC0
        have hC1' := Lib.hid hC1
        clear hC0 hC1 hc0 hc1 hp hs hl hr
        go_enter Try.func13, Try.ntmps13
        go_wp2_with (first
          | (go_at_call 36; refine (hL'.out _ (Kd.C_below hC0'.out (below_alloc (Below.refl w.heap.size w) _)) (Kd.C_below hC1'.out (below_alloc (Below.refl w.heap.size w) _))).mono ?_; clear hL'; rintro e w1 ⟨rfl, hd⟩; have hb := hd.below; clear hd; have b1 := Lib.hid (below_step (below_alloc (Below.refl w.heap.size w) _) hb); have o1 := Lib.hid (heap_below (heap_at _ _ _ rfl) hb); obtain ⟨x10, x11⟩ := box_cells o1.out; clear hb)
          | (go_at_call 41; refine (hB'.out _ (Kd.C_below hC0'.out b1.out) (Kd.C_below hC1'.out b1.out)).mono ?_; clear hB'; clear x10 x11; rintro e w2 ⟨v, rfl, ⟨AX, cX, hv, hcX, hC, hf⟩, hb⟩; subst hv; have CX_2 := Lib.hid hC; clear hC hf; have b2 := Lib.hid (below_step b1.out hb); have o2 := Lib.hid (heap_below o1.out hb); obtain ⟨x20, x21⟩ := box_cells o2.out; clear hb b1 o1)
          | (go_at_call 39; refine (hR'.out _ (Kd.C_below hC0'.out b2.out)).mono ?_; clear hR'; clear x20 x21; rintro e w3 ⟨rfl, hd⟩; have hb := hd.below; clear hd; have CX_3 := Lib.hid (Kd.C_below CX_2.out hb); have b3 := Lib.hid (below_step b2.out hb); have o3 := Lib.hid (heap_below o2.out hb); obtain ⟨x30, x31⟩ := box_cells o3.out; clear hb b2 o2 CX_2)
          | (go_at_call 42; refine (hQ'.out _ (Kd.C_below hC0'.out b3.out) (Kd.C_below hC1'.out b3.out)).mono ?_; clear hQ'; clear x30 x31; rintro e w4 ⟨v, rfl, ⟨AY, cY, hv, hcY, hC, hf⟩, hb⟩; subst hv; have CY_4 := Lib.hid hC; clear hC hf; have CX_4 := Lib.hid (Kd.C_below CX_3.out hb); have b4 := Lib.hid (below_step b3.out hb); have o4 := Lib.hid (heap_below o3.out hb); obtain ⟨x40, x41⟩ := box_cells o4.out; clear hb b3 o3 CX_3)
          | (go_at_call 16; refine (hS'.out _ _ _ _ _ CX_4.out (by assumption) CY_4.out (by assumption)).mono ?_; clear x40 x41; rintro e w5 ⟨rfl, hd⟩; have hb := hd.below; clear hd; have CX_5 := Lib.hid (Kd.C_below CX_4.out hb); have CY_5 := Lib.hid (Kd.C_below CY_4.out hb); have b5 := Lib.hid (below_step b4.out hb); have o5 := Lib.hid (heap_below o4.out hb); obtain ⟨x50, x51⟩ := box_cells o5.out; clear hb b4 o4 CX_4 CY_4)
          | (go_at_call 37; refine (dAwake_any _).mono ?_; clear x50 x51; rintro e w6 ⟨rfl, hb⟩; have CX_6 := Lib.hid (Kd.C_below CX_5.out hb); have CY_6 := Lib.hid (Kd.C_below CY_5.out hb); have b6 := Lib.hid (below_step b5.out hb); have o6 := Lib.hid (heap_below o5.out hb); obtain ⟨x60, x61⟩ := box_cells o6.out; clear hb b5 o5 CX_5 CY_5))
        go_ret
        exact ⟨rfl, b6.out⟩
end Go.Proofs.Ytoojonapnifjoaa.Own
