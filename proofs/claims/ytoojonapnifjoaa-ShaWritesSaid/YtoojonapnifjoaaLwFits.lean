/- MacFits, walked. -/
import Derived.Test.YtoojonapnifjoaaMb3
namespace Go.Proofs.Ytoojonapnifjoaa.Own
open Go.RowKit Go.Proofs.Ytoojonapnifjoaa.Arr Go.Proofs.Ytoojonapnifjoaa.QB Go.Proofs.YtoojonapnifjoaaW.PrintWords Go.Proofs.YtoojonapnifjoaaW.PrintLast Go.Proofs.YtoojonapnifjoaaW.PrintMore
set_option linter.unusedVariables false
set_option linter.unusedSimpArgs false
theorem refTag_any (key text : List Int) (hk : ∀ x ∈ key, byt x) (ht : ∀ x ∈ text, byt x) (hkl : key.length ≤ 1000000000) (htl : text.length ≤ 1000000000) (w : World) (A0 : Option Addr) (c0 : Nat) (A1 : Option Addr) (c1 : Nat) (hr0 : Kd.C (Kd.int .u8) w A0 key.length key) (hc0 : key.length ≤ c0) (hr1 : Kd.C (Kd.int .u8) w A1 text.length text) (hc1 : text.length ≤ c1) :
    Calls Try.prog 29 #[.slice A0 key.length c0, .slice A1 text.length c1] w fun e w' => ∃ v0_ : Value, e = .returned v0_ ∧ Kd.R (Kd.int .u8) 5 w' w.heap.size (fun _ => True) v0_ (tagB (blockL key) text) ∧ Below w.heap.size w w' :=
  nepentheref03_Tag.calls _ A0 c0 key A1 c1 text _ w hr0 hc0 hr1 hc1 (refTag_eq key text hk ht hkl htl 0)
theorem same_any (a b : List Int) (hl : a.length ≤ 281474976710656) (w : World) (A0 : Option Addr) (c0 : Nat) (A1 : Option Addr) (c1 : Nat) (hr0 : Kd.C (Kd.int .u8) w A0 a.length a) (hc0 : a.length ≤ c0) (hr1 : Kd.C (Kd.int .u8) w A1 b.length b) (hc1 : b.length ≤ c1) :
    Calls Try.prog 16 #[.slice A0 a.length c0, .slice A1 b.length c1] w fun e w' => e = .returned (.bool (decide (a = b))) ∧ Drawn0 w w' :=
  nepentheref01_SameBytes.calls _ A0 c0 a A1 c1 b _ w hr0 hc0 hr1 hc1 (same_dec a b hl 0)
set_option maxHeartbeats 4000000 in
set_option maxRecDepth 100000 in
theorem macFitsLaw (A0 : Option Addr) (c0 : Nat) (key : List Int) (A1 : Option Addr) (c1 : Nat) (text : List Int) (A2 : Option Addr) (c2 : Nat) (tag : List Int) (w : World) (hr0 : Kd.C (Kd.int .u8) w A0 key.length key) (hc0 : key.length ≤ c0) (hr1 : Kd.C (Kd.int .u8) w A1 text.length text) (hc1 : text.length ≤ c1) (hr2 : Kd.C (Kd.int .u8) w A2 tag.length tag) (hc2 : tag.length ≤ c2) (hk : ∀ x ∈ key, byt x) (ht : ∀ x ∈ text, byt x) (hg : ∀ x ∈ tag, byt x) :
    Calls Try.prog 10 #[.slice A0 key.length c0, .slice A1 text.length c1, .slice A2 tag.length c2] w fun e w' => e = .returned (.bool true) ∧ Below w.heap.size w w' := by
  by_cases hbig : 300 < key.length ∨ (key.length ≤ 300 ∧ 600 < text.length) ∨ (key.length ≤ 300 ∧ text.length ≤ 600 ∧ 100 < tag.length)
  · have hm0 := hr0.2.1
    have hm1 := hr1.2.1
    have hm2 := hr2.2.1
    clear hr0 hc0 hr1 hc1 hr2 hc2 hk ht hg
    rcases hbig with h0 | ⟨h0, h1⟩ | ⟨h0, h1, h2⟩
    all_goals
      go_enter Try.func10, Try.ntmps10
      go_wp2_with (go_at_call 27; refine (macAwake_any _).mono ?_; rintro e w1 ⟨rfl, hb⟩; have hb1 := Lib.hid hb; clear hb)
      go_ret
      exact ⟨rfl, hb1.out⟩
  · have h0 : key.length ≤ 300 := by omega
    have h1 : text.length ≤ 600 := by omega
    have h2 : tag.length ≤ 100 := by omega
    clear hbig
    have hW := refTag_any key text hk ht (by omega) (by omega) w A0 c0 A1 c1 hr0 hc0 hr1 hc1
    have hfT := fun (w1 : World) (hC0 : Kd.C (Kd.int .u8) w1 A0 key.length key) (hC1 : Kd.C (Kd.int .u8) w1 A1 text.length text) (hC2 : Kd.C (Kd.int .u8) w1 A2 tag.length tag) => macFits_any A0 c0 key A1 c1 text A2 c2 tag w1 hC0 (by omega) hC1 hc1 (by omega) hC2 hc2 (by omega) hg
    have hfW := fun (w1 : World) (A : Option Addr) (c : Nat) (hC0 : Kd.C (Kd.int .u8) w1 A0 key.length key) (hC1 : Kd.C (Kd.int .u8) w1 A1 text.length text) (hC2 : Kd.C (Kd.int .u8) w1 A (tagB (blockL key) text).length (tagB (blockL key) text)) (hc : (tagB (blockL key) text).length ≤ c) => macFits_any A0 c0 key A1 c1 text A c (tagB (blockL key) text) w1 hC0 (by omega) hC1 hc1 (by omega) hC2 hc (by rw [tagB_length]; decide) (byt_tag _ _)
    have hnew := fun (w1 : World) (hC0 : Kd.C (Kd.int .u8) w1 A0 key.length key) => newKey_any A0 c0 key w1 hC0 (by omega)
    have hfK : ∀ (w1 : World) g A c A3 c3, KeyAt w1 g (blockL key) → Kd.C (Kd.int .u8) w1 A (tagB (blockL key) text).length (tagB (blockL key) text) → (tagB (blockL key) text).length ≤ c → Kd.C (Kd.slice 5 (Kd.int .u8)) w1 A3 1 [text] → Calls Try.prog 34 #[.pointer (some ⟨g, 0, none⟩), .slice A (tagB (blockL key) text).length c, .slice A3 1 c3] w1 fun e w' => e = .returned (.bool true) ∧ Below w1.heap.size w1 w' := fun w1 g A c A3 c3 hka hC hc hr => by
      have h := keyFits_any w1 _ (blockL key) (blockL_length _) (own_key _ g _ hka) A c (tagB (blockL key) text) hC hc (by rw [tagB_length]; decide) (byt_tag _ _) A3 c3 [text] 5 hr (by simp; omega)
      rw [show [text].flatten = text from by simp, decide_eq_true rfl] at h
      exact h
    have hsm := fun (w1 : World) (A : Option Addr) (c : Nat) (hC2 : Kd.C (Kd.int .u8) w1 A2 tag.length tag) (hC : Kd.C (Kd.int .u8) w1 A (tagB (blockL key) text).length (tagB (blockL key) text)) (hc : (tagB (blockL key) text).length ≤ c) => same_any tag (tagB (blockL key) text) (by omega) w1 A2 c2 A c hC2 hc2 hC hc
    obtain ⟨B, hB⟩ : ∃ B, B = blockL key := ⟨_, rfl⟩
    obtain ⟨D, hD⟩ : ∃ D, D = tagB (blockL key) text := ⟨_, rfl⟩
    rw [← hD] at hW hfT hfW hfK hsm
    rw [← hB] at hnew hfK
    have hDD : decide (D = D) = true := decide_eq_true rfl
    rw [hDD] at hfW
    obtain ⟨R, hR⟩ : ∃ R, R = decide (tag = D) := ⟨_, rfl⟩
    rw [← hR] at hfT hsm
    have hRR : (R == R) = true := by simp
    have hm0 := hr0.2.1
    have hm1 := hr1.2.1
    have hm2 := hr2.2.1
    have hW' := Lib.hid hW
    have hfT' := Lib.hid hfT
    have hfW' := Lib.hid hfW
    have hnew' := Lib.hid hnew
    have hfK' := Lib.hid hfK
    have hsm' := Lib.hid hsm
    have hr0' := Lib.hid hr0
    have hr1' := Lib.hid hr1
    have hr2' := Lib.hid hr2
    have hc1' := Lib.hid hc1
    clear hW hfT hfW hnew hfK hsm hr0 hr1 hr2 hc0 hc1 hc2 hB hD hDD hR hk ht hg
    go_enter Try.func10, Try.ntmps10
    go_wp2_with (first
      | (go_at_call 29; refine hW'.out.mono ?_; rintro e w1 ⟨v, rfl, hR, hb⟩; obtain ⟨Ad, cd, rfl⟩ := Kd.R_slice hR; have hC1 := Lib.hid (Kd.R_reads' hR).2.2; have hcd := Lib.hid (Kd.R_reads' hR).2.1; have hb1 := Lib.hid hb; clear hR hb)
      | (go_at_call 35; refine (hfT'.out _ (Kd.C_below hr0'.out hb1.out) (Kd.C_below hr1'.out hb1.out) (Kd.C_below hr2'.out hb1.out)).mono ?_; clear hfT'; rintro e w2 ⟨rfl, hb⟩; have hb2 := Lib.hid (below_step hb1.out hb); have hC2 := Lib.hid (Kd.C_below hC1.out hb); clear hb hC1 hb1)
      | (go_at_call 16; refine (hsm'.out _ _ _ (Kd.C_below hr2'.out hb2.out) hC2.out hcd.out).mono ?_; rintro e w3 ⟨rfl, hd⟩; have hb3 := Lib.hid (below_step hb2.out hd.below); have hC3 := Lib.hid (Kd.C_below hC2.out hd.below); clear hd hC2 hb2)
      | (go_at_call 35; refine (hfW'.out _ _ _ (Kd.C_below hr0'.out hb3.out) (Kd.C_below hr1'.out hb3.out) hC3.out hcd.out).mono ?_; rintro e w4 ⟨rfl, hb⟩; have hb4 := Lib.hid (below_step hb3.out hb); have hC4 := Lib.hid (Kd.C_below hC3.out hb); clear hb hb3 hC3)
      | (go_at_call 32; refine (hnew'.out _ (Kd.C_below hr0'.out hb4.out)).mono ?_; rintro e w5 ⟨g, rfl, hg, hk, hb⟩; have hk5 := Lib.hid hk; have hb5 := Lib.hid (below_step hb4.out hb); have hC5 := Lib.hid (Kd.C_below hC4.out hb); clear hg hk hb hb4 hC4)
      | (go_at_call 34; refine (hfK'.out _ g _ _ _ _ (hk5.out.below (below_alloc (Below.refl _ _) _)) (Kd.C_alloc hC5.out _) hcd.out (CC_one (heap_at _ _ _ rfl) hc1'.out (Kd.C_alloc (Kd.C_below hr1'.out hb5.out) _))).mono ?_; rintro e w6 ⟨rfl, hb⟩; have hb6 := Lib.hid (below_step (below_alloc hb5.out _) hb); clear hb)
      | (go_at_call 27; refine (macAwake_any _).mono ?_; rintro e w7 ⟨rfl, hb⟩; have hb7 := Lib.hid (below_step hb6.out hb); clear hb))
    go_ret
    exact ⟨rfl, hb7.out⟩
end Go.Proofs.Ytoojonapnifjoaa.Own
namespace Go.Proofs.Ytoojonapnifjoaa.Own
open Go.RowKit Go.Proofs.Ytoojonapnifjoaa.Arr Go.Proofs.Ytoojonapnifjoaa.QB Go.Proofs.YtoojonapnifjoaaW.PrintWords Go.Proofs.YtoojonapnifjoaaW.PrintLast Go.Proofs.YtoojonapnifjoaaW.PrintMore
theorem MacFits_walk (w : World) (A0 : Option Addr) (c0 : Nat) (x0 : List Int) (b0 : x0.length ≤ c0) (C0 : Kd.C (Kd.int .u8) w A0 x0.length x0) (w0 : x0.length ≤ maxLen ∧ ∀ x ∈ x0, (Lit.int .u8 x).wf = true) (A1 : Option Addr) (c1 : Nat) (x1 : List Int) (b1 : x1.length ≤ c1) (C1 : Kd.C (Kd.int .u8) w A1 x1.length x1) (w1 : x1.length ≤ maxLen ∧ ∀ x ∈ x1, (Lit.int .u8 x).wf = true) (A2 : Option Addr) (c2 : Nat) (x2 : List Int) (b2 : x2.length ≤ c2) (C2 : Kd.C (Kd.int .u8) w A2 x2.length x2) (w2 : x2.length ≤ maxLen ∧ ∀ x ∈ x2, (Lit.int .u8 x).wf = true) :
    Calls Try.prog 10 #[.slice A0 x0.length c0, .slice A1 x1.length c1, .slice A2 x2.length c2] w fun e w' => e = .returned (.bool true) ∧ Below w.heap.size w w' :=
  macFitsLaw A0 c0 x0 A1 c1 x1 A2 c2 x2 w C0 b0 C1 b1 C2 b2 (byt_wf w0.2) (byt_wf w1.2) (byt_wf w2.2)
end Go.Proofs.Ytoojonapnifjoaa.Own
