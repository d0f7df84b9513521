/- DeriveBegins, DeriveKeys, walked. -/
import Derived.Test.YtoojonapnifjoaaLwDer
namespace Go.Proofs.Ytoojonapnifjoaa.Own
open Go.RowKit Go.Proofs.Ytoojonapnifjoaa.Arr Go.Proofs.Ytoojonapnifjoaa.QB Go.Proofs.YtoojonapnifjoaaW.PrintWords Go.Proofs.YtoojonapnifjoaaW.PrintLast Go.Proofs.YtoojonapnifjoaaW.PrintMore Go.Proofs.Ytoojonapnifjoaa.Opn
set_option linter.unusedVariables false
set_option linter.unusedSimpArgs false
theorem C_take {w : World} {A : Option Addr} {n : Nat} {xs : List Int} (h : Kd.C (Kd.int .u8) w A n xs) (m : Nat) (hm : m ≤ n) : Kd.C (Kd.int .u8) w A m (xs.take m) := by
  obtain ⟨h1, h2, h3⟩ := h
  refine ⟨by rw [List.length_take]; omega, by omega, fun hp => ?_⟩
  obtain ⟨ad, e, hc⟩ := h3 (by omega)
  refine ⟨ad, e, fun j p hj => hc j p ?_⟩
  rw [List.getElem?_take] at hj
  split at hj
  · exact hj
  · cases hj
theorem dBytes_okI (A0 : Option Addr) (c0 : Nat) (pass : List Int) (w : World) (hr0 : Kd.C (Kd.int .u8) w A0 pass.length pass) (hc0 : pass.length ≤ c0) (A1 : Option Addr) (c1 : Nat) (salt : List Int) (hr1 : Kd.C (Kd.int .u8) w A1 salt.length salt) (hc1 : salt.length ≤ c1) (hlen : salt.length ≤ 100000000) (r : Int) (h : rightB pass.length r = true) (n : Int) (h0 : 0 ≤ n) (hn : n ≤ 1024) :
    Calls Try.prog 38 #[.slice A0 pass.length c0, .slice A1 salt.length c1, .int .i64 r, .int .i64 n] w fun e w' => ∃ v, e = .returned (.tuple #[v, .int .i64 0]) ∧ Fr w' w.heap.size v (bytesD (blockL pass) salt r.toNat n.toNat) ∧ Below w.heap.size w w' := by
  obtain ⟨m, rfl⟩ := Int.eq_ofNat_of_zero_le h0
  exact dBytes_ok A0 c0 pass w hr0 hc0 A1 c1 salt hr1 hc1 hlen r m h (by omega)
theorem bytesD_pre (B salt : List Int) (r a b : Nat) (h : a ≤ b) : (bytesD B salt r b).take a = bytesD B salt r a := by
  rw [bytesD, bytesD, List.take_take, Nat.min_eq_left h]

set_option maxHeartbeats 4000000 in
set_option maxRecDepth 100000 in
theorem DeriveBegins_law (w : World) (A0 : Option Addr) (c0 : Nat) (A1 : Option Addr) (c1 : Nat) (pass salt : List Int) (hc0 : pass.length ≤ c0) (hC0 : Kd.C (Kd.int .u8) w A0 pass.length pass) (hc1 : salt.length ≤ c1) (hC1 : Kd.C (Kd.int .u8) w A1 salt.length salt) (hp : ∀ x ∈ pass, byt x) (hs : ∀ x ∈ salt, byt x) (n m : Int) (wn0 : (Lit.int .u8 n).wf = true) (wm0 : (Lit.int .u8 m).wf = true) :
    Calls Try.prog 12 #[.agg #[.slice A0 pass.length c0, .slice A1 salt.length c1], .int .u8 n, .int .u8 m] w fun e w' => e = .returned (.bool true) ∧ Below w.heap.size w w' := by
  have hl0 : lightB pass.length salt.length 2 = false ∨ lightB pass.length salt.length 2 = true := by cases lightB pass.length salt.length 2 <;> simp
  obtain ⟨hn0, hn1⟩ := bounds_u8 wn0
  obtain ⟨hm0, hm1⟩ := bounds_u8 wm0
  rcases hl0 with hl | hl
  · have hL := fun w1 h0 h1 => light_any pass salt 2 false hl A0 c0 A1 c1 w1 h0 hc0 h1 hc1
    have hL' := Lib.hid hL
    clear hL
    have hC0' := Lib.hid hC0
    have hC1' := Lib.hid hC1
    clear hC0 hC1 hc0 hc1 hp hs hl
    go_enter Try.func12, Try.ntmps12
    go_wp2_with (first
      | (go_at_call 36; refine (hL'.out _ (Kd.C_below hC0'.out (below_alloc (Below.refl w.heap.size w) _)) (Kd.C_below hC1'.out (below_alloc (Below.refl w.heap.size w) _))).mono ?_; clear hL'; rintro e w1 ⟨rfl, hd⟩; have hb := hd.below; clear hd; have b1 := Lib.hid (below_step (below_alloc (Below.refl w.heap.size w) _) hb); have o1 := Lib.hid (heap_below (heap_at _ _ _ rfl) hb); obtain ⟨x10, x11⟩ := box_cells o1.out; clear hb)
      | (go_at_call 37; refine (dAwake_any _).mono ?_; clear x10 x11; rintro e w2 ⟨rfl, hb⟩; have b2 := Lib.hid (below_step b1.out hb); have o2 := Lib.hid (heap_below o1.out hb); obtain ⟨x20, x21⟩ := box_cells o2.out; clear hb b1 o1))
    go_ret
    exact ⟨rfl, b2.out⟩
  · have hr0 : rightB pass.length 2 = false ∨ rightB pass.length 2 = true := by cases rightB pass.length 2 <;> simp
    obtain ⟨hpl, hsl, -⟩ := light_of hl
    rcases hr0 with hr | hr
    · have hL := fun w1 h0 h1 => light_any pass salt 2 true hl A0 c0 A1 c1 w1 h0 hc0 h1 hc1
      have hL' := Lib.hid hL
      clear hL
      have hR := fun w1 h0 => rRight_any pass 2 false hr A0 c0 w1 h0 hc0
      have hR' := Lib.hid hR
      clear hR
      have hB := fun w1 n h0 => dBytes_no A0 c0 pass w1 h0 hc0 (.slice A1 salt.length c1) 2 n (by rw [hr]; simp)
      have hB2 := hB
      have hB' := Lib.hid hB
      clear hB
      have hB2' := Lib.hid hB2
      clear hB2
      have hC0' := Lib.hid hC0
      have hC1' := Lib.hid hC1
      clear hC0 hC1 hc0 hc1 hp hs hl hr
      go_enter Try.func12, Try.ntmps12
      go_wp2_with (first
        | (go_at_call 36; refine (hL'.out _ (Kd.C_below hC0'.out (below_alloc (Below.refl w.heap.size w) _)) (Kd.C_below hC1'.out (below_alloc (Below.refl w.heap.size w) _))).mono ?_; clear hL'; rintro e w1 ⟨rfl, hd⟩; have hb := hd.below; clear hd; have b1 := Lib.hid (below_step (below_alloc (Below.refl w.heap.size w) _) hb); have o1 := Lib.hid (heap_below (heap_at _ _ _ rfl) hb); obtain ⟨x10, x11⟩ := box_cells o1.out; clear hb)
        | (go_at_call 38; refine (hB'.out _ _ (Kd.C_below hC0'.out b1.out)).mono ?_; clear hB'; clear x10 x11; rintro e w2 ⟨rfl, hd⟩; have hb := hd.below; clear hd; have b2 := Lib.hid (below_step b1.out hb); have o2 := Lib.hid (heap_below o1.out hb); obtain ⟨x20, x21⟩ := box_cells o2.out; clear hb b1 o1)
        | (go_at_call 38; refine (hB2'.out _ _ (Kd.C_below hC0'.out b2.out)).mono ?_; clear x20 x21; rintro e w3 ⟨rfl, hd⟩; have hb := hd.below; clear hd; have b3 := Lib.hid (below_step b2.out hb); have o3 := Lib.hid (heap_below o2.out hb); obtain ⟨x30, x31⟩ := box_cells o3.out; clear hb b2 o2)
        | (go_at_call 39; refine (hR'.out _ (Kd.C_below hC0'.out b3.out)).mono ?_; clear hR'; clear x30 x31; rintro e w4 ⟨rfl, hd⟩; have hb := hd.below; clear hd; have b4 := Lib.hid (below_step b3.out hb); have o4 := Lib.hid (heap_below o3.out hb); obtain ⟨x40, x41⟩ := box_cells o4.out; clear hb b3 o3)
        | (go_at_call 37; refine (dAwake_any _).mono ?_; clear x40 x41; rintro e w5 ⟨rfl, hb⟩; have b5 := Lib.hid (below_step b4.out hb); have o5 := Lib.hid (heap_below o4.out hb); obtain ⟨x50, x51⟩ := box_cells o5.out; clear hb b4 o4))
      go_ret
      exact ⟨rfl, b5.out⟩
    · have hL := fun w1 h0 h1 => light_any pass salt 2 true hl A0 c0 A1 c1 w1 h0 hc0 h1 hc1
      have hL' := Lib.hid hL
      clear hL
      have hR := fun w1 h0 => rRight_any pass 2 true hr A0 c0 w1 h0 hc0
      have hR' := Lib.hid hR
      clear hR
      have hB := fun w1 h0 h1 => dBytes_okI A0 c0 pass w1 h0 hc0 A1 c1 salt h1 hc1 (by omega) 2 hr (n % 80) (by omega) (by omega)
      have hB2 := fun w1 h0 h1 => dBytes_okI A0 c0 pass w1 h0 hc0 A1 c1 salt h1 hc1 (by omega) 2 hr (n % 80 + m % 80) (by omega) (by omega)
      have hl1 := bytesD_length (blockL pass) salt (2 : Int).toNat (n % 80).toNat (by omega)
      have hl2 := bytesD_length (blockL pass) salt (2 : Int).toNat (n % 80 + m % 80).toNat (by omega)
      have hpre := bytesD_pre (blockL pass) salt (2 : Int).toNat (n % 80).toNat (n % 80 + m % 80).toNat (by omega)
      obtain ⟨D1, hD1⟩ : ∃ D, D = bytesD (blockL pass) salt (2 : Int).toNat (n % 80).toNat := ⟨_, rfl⟩
      rw [← hD1] at hB hl1 hpre
      obtain ⟨D2, hD2⟩ : ∃ D, D = bytesD (blockL pass) salt (2 : Int).toNat (n % 80 + m % 80).toNat := ⟨_, rfl⟩
      rw [← hD2] at hB2 hl2 hpre
      have hle : D1.length ≤ D2.length := by rw [hl1, hl2]; omega
      have hD2m : D2.length ≤ 1024 := by rw [hl2]; omega
      rw [← hl1] at hpre
      have hS := fun w1 A c A' c' => same_self D1 (by omega) w1 A c A' c'
      clear hD1 hD2 hl1 hl2
      have hB' := Lib.hid hB
      clear hB
      have hB2' := Lib.hid hB2
      clear hB2
      have hS' := Lib.hid hS
      clear hS
      have hpre' := Lib.hid hpre
      clear hpre
      have hC0' := Lib.hid hC0
      have hC1' := Lib.hid hC1
      clear hC0 hC1 hc0 hc1 hp hs hl hr
      go_enter Try.func12, Try.ntmps12
      go_wp2_with (first
        | (go_at_call 36; refine (hL'.out _ (Kd.C_below hC0'.out (below_alloc (Below.refl w.heap.size w) _)) (Kd.C_below hC1'.out (below_alloc (Below.refl w.heap.size w) _))).mono ?_; clear hL'; rintro e w1 ⟨rfl, hd⟩; have hb := hd.below; clear hd; have b1 := Lib.hid (below_step (below_alloc (Below.refl w.heap.size w) _) hb); have o1 := Lib.hid (heap_below (heap_at _ _ _ rfl) hb); obtain ⟨x10, x11⟩ := box_cells o1.out; clear hb)
        | (go_at_call 38; refine (hB'.out _ (Kd.C_below hC0'.out b1.out) (Kd.C_below hC1'.out b1.out)).mono ?_; clear hB'; clear x10 x11; rintro e w2 ⟨v, rfl, ⟨AX, cX, hv, hcX, hC, hf⟩, hb⟩; subst hv; have CX_2 := Lib.hid hC; clear hC hf; have b2 := Lib.hid (below_step b1.out hb); have o2 := Lib.hid (heap_below o1.out hb); obtain ⟨x20, x21⟩ := box_cells o2.out; clear hb b1 o1)
        | (go_at_call 38; refine (hB2'.out _ (Kd.C_below hC0'.out b2.out) (Kd.C_below hC1'.out b2.out)).mono ?_; clear hB2'; clear x20 x21; rintro e w3 ⟨v, rfl, ⟨AY, cY, hv, hcY, hC, hf⟩, hb⟩; subst hv; have CY_3 := Lib.hid hC; clear hC hf; have hcut := cut_to AY D2.length cY D1.length (Nat.le_trans hle hcY); have CX_3 := Lib.hid (Kd.C_below CX_2.out hb); have b3 := Lib.hid (below_step b2.out hb); have o3 := Lib.hid (heap_below o2.out hb); obtain ⟨x30, x31⟩ := box_cells o3.out; clear hb b2 o2 CX_2)
        | (go_at_call 39; refine (hR'.out _ (Kd.C_below hC0'.out b3.out)).mono ?_; clear hR'; clear x30 x31; rintro e w4 ⟨rfl, hd⟩; have hb := hd.below; clear hd; have CX_4 := Lib.hid (Kd.C_below CX_3.out hb); have CY_4 := Lib.hid (Kd.C_below CY_3.out hb); have b4 := Lib.hid (below_step b3.out hb); have o4 := Lib.hid (heap_below o3.out hb); obtain ⟨x40, x41⟩ := box_cells o4.out; clear hb b3 o3 CX_3 CY_3)
        | (go_at_call 16; refine (hS'.out _ _ _ _ _ CX_4.out (by assumption) (by have q := C_take CY_4.out D1.length hle; rw [hpre'.out] at q; exact q) (by omega)).mono ?_; clear x40 x41; rintro e w5 ⟨rfl, hd⟩; have hb := hd.below; clear hd; have CX_5 := Lib.hid (Kd.C_below CX_4.out hb); have CY_5 := Lib.hid (Kd.C_below CY_4.out hb); have b5 := Lib.hid (below_step b4.out hb); have o5 := Lib.hid (heap_below o4.out hb); obtain ⟨x50, x51⟩ := box_cells o5.out; clear hb b4 o4 CX_4 CY_4)
        | (go_at_call 37; refine (dAwake_any _).mono ?_; clear x50 x51; rintro e w6 ⟨rfl, hb⟩; have CX_6 := Lib.hid (Kd.C_below CX_5.out hb); have CY_6 := Lib.hid (Kd.C_below CY_5.out hb); have b6 := Lib.hid (below_step b5.out hb); have o6 := Lib.hid (heap_below o5.out hb); obtain ⟨x60, x61⟩ := box_cells o6.out; clear hb b5 o5 CX_5 CY_5))
      go_ret
      exact ⟨rfl, b6.out⟩

theorem sub_C {w : World} {b o : Nat} {D : List Int} (h : w.rangeAt b o (D.map (Value.int .u8))) (m n : Nat) (hl : ((D.drop m).take n).length = n) (hn : n ≤ 1000) : Kd.C (Kd.int .u8) w (some ⟨b, o + m, none⟩) n ((D.drop m).take n) := by
  have := C_of_range (by rw [hl]; omega) (range_part h m n)
  rw [hl] at this
  exact this
theorem Keys96 (A0 : Option Addr) (c0 : Nat) (pass : List Int) (A1 : Option Addr) (c1 : Nat) (salt : List Int) (hc0 : pass.length ≤ c0) (hc1 : salt.length ≤ c1) (hlen : salt.length ≤ 100000000) (r : Int) (h : rightB pass.length r = true) (D : List Int) (hD : D = bytesD (blockL pass) salt r.toNat 96) (w : World) (hr0 : Kd.C (Kd.int .u8) w A0 pass.length pass) (hr1 : Kd.C (Kd.int .u8) w A1 salt.length salt) :
    Calls Try.prog 43 #[.slice A0 pass.length c0, .slice A1 salt.length c1, .int .i64 r] w fun e w' => ∃ X1 d1 X2 d2 X3 d3, e = .returned (.tuple #[.slice X1 32 d1, .slice X2 32 d2, .slice X3 32 d3, .int .i64 0]) ∧ 32 ≤ d1 ∧ 32 ≤ d2 ∧ 32 ≤ d3 ∧ Kd.C (Kd.int .u8) w' X1 32 ((D.drop 0).take 32) ∧ Kd.C (Kd.int .u8) w' X2 32 ((D.drop 32).take 32) ∧ Kd.C (Kd.int .u8) w' X3 32 ((D.drop 64).take 32) ∧ Below w.heap.size w w' := by
  have hDl := bytesD_length (blockL pass) salt r.toNat 96 (by decide)
  have hk := dKeys_ok A0 c0 pass w hr0 hc0 A1 c1 salt hr1 hc1 hlen r h
  rw [← hD] at hk hDl
  refine hk.mono ?_
  rintro e w' ⟨v1, v2, v3, rfl, ⟨X1, d1, e1, k1, C1, _⟩, ⟨X2, d2, e2, k2, C2, _⟩, ⟨X3, d3, e3, k3, C3, _⟩, hb⟩
  have l1 : (D.take 32).length = 32 := by rw [List.length_take]; omega
  have l2 : ((D.drop 32).take 32).length = 32 := by rw [List.length_take, List.length_drop]; omega
  have l3 : (D.drop 64).length = 32 := by rw [List.length_drop]; omega
  rw [l1] at e1 k1 C1
  rw [l2] at e2 k2 C2
  rw [l3] at e3 k3 C3
  subst e1 e2 e3
  exact ⟨X1, d1, X2, d2, X3, d3, rfl, k1, k2, k3, by rw [List.drop_zero]; exact C1, C2, by rw [List.take_of_length_le (by omega)]; exact C3, hb⟩
theorem same_32 (a : List Int) (hl : a.length = 32) (w : World) (A0 : Option Addr) (c0 : Nat) (A1 : Option Addr) (c1 : Nat) (hr0 : Kd.C (Kd.int .u8) w A0 32 a) (hc0 : 32 ≤ c0) (hr1 : Kd.C (Kd.int .u8) w A1 32 a) (hc1 : 32 ≤ c1) :
    Calls Try.prog 16 #[.slice A0 32 c0, .slice A1 32 c1] w fun e w' => e = .returned (.bool true) ∧ Drawn0 w w' := by
  have := same_self a (by omega) w A0 c0 A1 c1 (by rw [hl]; exact hr0) (by omega) (by rw [hl]; exact hr1) (by omega)
  rw [hl] at this
  exact this

set_option maxHeartbeats 4000000 in
set_option maxRecDepth 100000 in
theorem DeriveKeys_law (w : World) (A0 : Option Addr) (c0 : Nat) (A1 : Option Addr) (c1 : Nat) (pass salt : List Int) (hc0 : pass.length ≤ c0) (hC0 : Kd.C (Kd.int .u8) w A0 pass.length pass) (hc1 : salt.length ≤ c1) (hC1 : Kd.C (Kd.int .u8) w A1 salt.length salt) (hp : ∀ x ∈ pass, byt x) (hs : ∀ x ∈ salt, byt x) (r : Int) :
    Calls Try.prog 14 #[.slice A0 pass.length c0, .slice A1 salt.length c1, .int .i64 r] w fun e w' => e = .returned (.bool true) ∧ Below w.heap.size w w' := by
  have hl0 : lightB pass.length salt.length r = false ∨ lightB pass.length salt.length r = true := by cases lightB pass.length salt.length r <;> simp
  rcases hl0 with hl | hl
  · have hL := fun w1 h0 h1 => light_any pass salt r false hl A0 c0 A1 c1 w1 h0 hc0 h1 hc1
    have hL' := Lib.hid hL
    clear hL
    have hC0' := Lib.hid hC0
    have hC1' := Lib.hid hC1
    clear hC0 hC1 hc0 hc1 hp hs hl
    go_enter Try.func14, Try.ntmps14
    go_wp2_with (first
      | (go_at_call 36; refine (hL'.out _ (Kd.C_below hC0'.out (Below.refl w.heap.size w)) (Kd.C_below hC1'.out (Below.refl w.heap.size w))).mono ?_; clear hL'; rintro e w1 ⟨rfl, hd⟩; have hb := hd.below; clear hd; have b1 := Lib.hid (below_step (Below.refl w.heap.size w) hb); clear hb)
      | (go_at_call 37; refine (dAwake_any _).mono ?_; rintro e w2 ⟨rfl, hb⟩; have b2 := Lib.hid (below_step b1.out hb); clear hb b1))
    go_ret
    exact ⟨rfl, b2.out⟩
  · have hr0 : rightB pass.length r = false ∨ rightB pass.length r = true := by cases rightB pass.length r <;> simp
    obtain ⟨hpl, hsl, -⟩ := light_of hl
    rcases hr0 with hr | hr
    · have hL := fun w1 h0 h1 => light_any pass salt r true hl A0 c0 A1 c1 w1 h0 hc0 h1 hc1
      have hL' := Lib.hid hL
      clear hL
      have hR := fun w1 h0 => rRight_any pass r false hr A0 c0 w1 h0 hc0
      have hR' := Lib.hid hR
      clear hR
      have hB := fun w1 h0 => dKeys_no A0 c0 pass w1 h0 hc0 (.slice A1 salt.length c1) r (by rw [hr]; simp)
      have hB' := Lib.hid hB
      clear hB
      have hC0' := Lib.hid hC0
      have hC1' := Lib.hid hC1
      clear hC0 hC1 hc0 hc1 hp hs hl hr
      go_enter Try.func14, Try.ntmps14
      go_wp2_with (first
        | (go_at_call 36; refine (hL'.out _ (Kd.C_below hC0'.out (Below.refl w.heap.size w)) (Kd.C_below hC1'.out (Below.refl w.heap.size w))).mono ?_; clear hL'; rintro e w1 ⟨rfl, hd⟩; have hb := hd.below; clear hd; have b1 := Lib.hid (below_step (Below.refl w.heap.size w) hb); clear hb)
        | (go_at_call 43; refine (hB'.out _ (Kd.C_below hC0'.out b1.out)).mono ?_; rintro e w2 ⟨rfl, hd⟩; have hb := hd.below; clear hd; have b2 := Lib.hid (below_step b1.out hb); clear hb b1)
        | (go_at_call 39; refine (hR'.out _ (Kd.C_below hC0'.out b2.out)).mono ?_; clear hR'; rintro e w3 ⟨rfl, hd⟩; have hb := hd.below; clear hd; have b3 := Lib.hid (below_step b2.out hb); clear hb b2)
        | (go_at_call 37; refine (dAwake_any _).mono ?_; rintro e w4 ⟨rfl, hb⟩; have b4 := Lib.hid (below_step b3.out hb); clear hb b3))
      go_ret
      exact ⟨rfl, b4.out⟩
    · have hL := fun w1 h0 h1 => light_any pass salt r true hl A0 c0 A1 c1 w1 h0 hc0 h1 hc1
      have hL' := Lib.hid hL
      clear hL
      have hR := fun w1 h0 => rRight_any pass r true hr A0 c0 w1 h0 hc0
      have hR' := Lib.hid hR
      clear hR
      obtain ⟨hrp, hr1, hr2⟩ := right_of hr
      obtain ⟨D, hD⟩ : ∃ D, D = bytesD (blockL pass) salt r.toNat 96 := ⟨_, rfl⟩
      have hB := Keys96 A0 c0 pass A1 c1 salt hc0 hc1 (by omega) r hr D hD
      have hQ := fun w1 h0 h1 => rBytes_any pass salt hp hs (by omega) (by omega) r hr1 hr2 96 (by decide) A0 c0 A1 c1 w1 h0 hc0 h1 hc1
      have hDl := bytesD_length (blockL pass) salt r.toNat 96 (by decide)
      rw [← hD] at hQ hDl
      have l1 : ((D.drop 0).take 32).length = 32 := by rw [List.length_take, List.length_drop]; omega
      have l2 : ((D.drop 32).take 32).length = 32 := by rw [List.length_take, List.length_drop]; omega
      have l3 : ((D.drop 64).take 32).length = 32 := by rw [List.length_take, List.length_drop]; omega
      have hS1 := same_32 _ l1
      have hS2 := same_32 _ l2
      have hS3 := same_32 _ l3
      clear hD
      have l1' := Lib.hid l1
      have l2' := Lib.hid l2
      have l3' := Lib.hid l3
      clear l1 l2 l3
      have hB' := Lib.hid hB
      clear hB
      have hQ' := Lib.hid hQ
      clear hQ
      have hS1' := Lib.hid hS1
      clear hS1
      have hS2' := Lib.hid hS2
      clear hS2
      have hS3' := Lib.hid hS3
      clear hS3
      have hDl' := Lib.hid hDl
      clear hDl
      have hC0' := Lib.hid hC0
      have hC1' := Lib.hid hC1
      clear hC0 hC1 hc0 hc1 hp hs hl hr
      go_enter Try.func14, Try.ntmps14
      go_wp2_with (first
        | (go_at_call 36; refine (hL'.out _ hC0'.out hC1'.out).mono ?_; clear hL'; rintro e w1 ⟨rfl, hd⟩; have b1 := Lib.hid hd.below; clear hd)
        | (go_at_call 43; refine (hB'.out _ (Kd.C_below hC0'.out b1.out) (Kd.C_below hC1'.out b1.out)).mono ?_; clear hB'; rintro e w2 ⟨X1, d1, X2, d2, X3, d3, rfl, k1, k2, k3, q1, q2, q3, hb⟩; have E1 := Lib.hid q1; have E2 := Lib.hid q2; have E3 := Lib.hid q3; have b2 := Lib.hid (below_step b1.out hb); clear q1 q2 q3 hb b1)
        | (go_at_call 39; refine (hR'.out _ (Kd.C_below hC0'.out b2.out)).mono ?_; clear hR'; rintro e w3 ⟨rfl, hd⟩; have hb := hd.below; have E1_3 := Lib.hid (Kd.C_below E1.out hb); have E2_3 := Lib.hid (Kd.C_below E2.out hb); have E3_3 := Lib.hid (Kd.C_below E3.out hb); have b3 := Lib.hid (below_step b2.out hb); clear hd hb b2 E1 E2 E3)
        | (go_at_call 40; refine (hQ'.out _ (Kd.C_below hC0'.out b3.out) (Kd.C_below hC1'.out b3.out)).mono ?_; clear hQ'; rintro e w4 ⟨v, rfl, ⟨Y, cY, hv, hcY, hC, hf⟩, hb⟩; rw [hDl'.out] at hv hcY hC; obtain ⟨bb, oo, rfl, hrg⟩ := C_range hC (by decide); subst hv; have F1 := Lib.hid (sub_C hrg 0 32 l1'.out (by decide)); have F2 := Lib.hid (sub_C hrg 32 32 l2'.out (by decide)); have F3 := Lib.hid (sub_C hrg 64 32 l3'.out (by decide)); have E1_4 := Lib.hid (Kd.C_below E1_3.out hb); have E2_4 := Lib.hid (Kd.C_below E2_3.out hb); have E3_4 := Lib.hid (Kd.C_below E3_3.out hb); have b4 := Lib.hid (below_step b3.out hb); clear hb b3 hC hf hrg E1_3 E2_3 E3_3)
        | (go_at_call 16; refine (hS1'.out _ _ _ _ _ E1_4.out k1 F1.out (by omega)).mono ?_; clear hS1'; rintro e w5 ⟨rfl, hd⟩; have hb := hd.below; have E2_5 := Lib.hid (Kd.C_below E2_4.out hb); have E3_5 := Lib.hid (Kd.C_below E3_4.out hb); have F2_5 := Lib.hid (Kd.C_below F2.out hb); have F3_5 := Lib.hid (Kd.C_below F3.out hb); have b5 := Lib.hid (below_step b4.out hb); clear hd hb b4 E1_4 E2_4 E3_4 F1 F2 F3)
        | (go_at_call 16; refine (hS2'.out _ _ _ _ _ E2_5.out k2 F2_5.out (by omega)).mono ?_; clear hS2'; rintro e w6 ⟨rfl, hd⟩; have hb := hd.below; have E3_6 := Lib.hid (Kd.C_below E3_5.out hb); have F3_6 := Lib.hid (Kd.C_below F3_5.out hb); have b6 := Lib.hid (below_step b5.out hb); clear hd hb b5 E2_5 E3_5 F2_5 F3_5)
        | (go_at_call 16; refine (hS3'.out _ _ _ _ _ E3_6.out k3 F3_6.out (by omega)).mono ?_; clear hS3'; rintro e w7 ⟨rfl, hd⟩; have b7 := Lib.hid (below_step b6.out hd.below); clear hd b6 E3_6 F3_6)
        | (go_at_call 37; refine (dAwake_any _).mono ?_; rintro e w8 ⟨rfl, hb⟩; have b8 := Lib.hid (below_step b7.out hb); clear hb b7))
      go_ret
      exact ⟨rfl, b8.out⟩

theorem DeriveBytes_walk (w : World) (txt : List (List Int)) (cs : Array Value) (K : txt.length = 2 ∧ VecK (Kd.slice 5 (Kd.int .u8)).K w txt cs.toList) (wt : ∀ x ∈ txt, x.length ≤ maxLen ∧ ∀ y ∈ x, (Lit.int .u8 y).wf = true) (r : Int) (wr : (Lit.int .i64 r).wf = true) (n : Int) (wn : (Lit.int .i64 n).wf = true) :
    Calls Try.prog 11 #[.agg cs, .int .i64 r, .int .i64 n] w fun e w' => e = .returned (.bool true) ∧ Below w.heap.size w w' := by
  obtain ⟨A0, c0, A1, c1, pass, salt, rfl, hc0, hC0, hc1, hC1, hp, hs⟩ := text_of K wt
  exact DeriveBytes_law w A0 c0 A1 c1 pass salt hc0 hC0 hc1 hC1 hp hs r n wn

theorem DeriveBlocks_walk (w : World) (txt : List (List Int)) (cs : Array Value) (K : txt.length = 2 ∧ VecK (Kd.slice 5 (Kd.int .u8)).K w txt cs.toList) (wt : ∀ x ∈ txt, x.length ≤ maxLen ∧ ∀ y ∈ x, (Lit.int .u8 y).wf = true) (r : Int) (wr : (Lit.int .i64 r).wf = true) (n : Int) (wn : (Lit.int .i64 n).wf = true) :
    Calls Try.prog 13 #[.agg cs, .int .i64 r, .int .i64 n] w fun e w' => e = .returned (.bool true) ∧ Below w.heap.size w w' := by
  obtain ⟨A0, c0, A1, c1, pass, salt, rfl, hc0, hC0, hc1, hC1, hp, hs⟩ := text_of K wt
  exact DeriveBlocks_law w A0 c0 A1 c1 pass salt hc0 hC0 hc1 hC1 hp hs r n wn

theorem DeriveBegins_walk (w : World) (txt : List (List Int)) (cs : Array Value) (K : txt.length = 2 ∧ VecK (Kd.slice 5 (Kd.int .u8)).K w txt cs.toList) (wt : ∀ x ∈ txt, x.length ≤ maxLen ∧ ∀ y ∈ x, (Lit.int .u8 y).wf = true) (n : Int) (wn : (Lit.int .u8 n).wf = true) (m : Int) (wm : (Lit.int .u8 m).wf = true) :
    Calls Try.prog 12 #[.agg cs, .int .u8 n, .int .u8 m] w fun e w' => e = .returned (.bool true) ∧ Below w.heap.size w w' := by
  obtain ⟨A0, c0, A1, c1, pass, salt, rfl, hc0, hC0, hc1, hC1, hp, hs⟩ := text_of K wt
  exact DeriveBegins_law w A0 c0 A1 c1 pass salt hc0 hC0 hc1 hC1 hp hs n m wn wm

theorem DeriveKeys_walk (w : World) (A0 : Option Addr) (c0 : Nat) (x0 : List Int) (b0 : x0.length ≤ c0) (C0 : Kd.C (Kd.int .u8) w A0 x0.length x0) (w0 : x0.length ≤ maxLen ∧ ∀ x ∈ x0, (Lit.int .u8 x).wf = true) (A1 : Option Addr) (c1 : Nat) (x1 : List Int) (b1 : x1.length ≤ c1) (C1 : Kd.C (Kd.int .u8) w A1 x1.length x1) (w1 : x1.length ≤ maxLen ∧ ∀ x ∈ x1, (Lit.int .u8 x).wf = true) (r : Int) (wr : (Lit.int .i64 r).wf = true) :
    Calls Try.prog 14 #[.slice A0 x0.length c0, .slice A1 x1.length c1, .int .i64 r] w fun e w' => e = .returned (.bool true) ∧ Below w.heap.size w w' :=
  DeriveKeys_law w A0 c0 A1 c1 x0 x1 b0 C0 b1 C1 (byt_wf w0.2) (byt_wf w1.2) r
end Go.Proofs.Ytoojonapnifjoaa.Own
