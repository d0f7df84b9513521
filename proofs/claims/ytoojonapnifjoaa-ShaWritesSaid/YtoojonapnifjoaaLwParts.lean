/- MacParts, walked. -/
import Derived.Test.YtoojonapnifjoaaLwFits
namespace Go.Proofs.Ytoojonapnifjoaa.Own
open Go.RowKit Go.Proofs.Ytoojonapnifjoaa.Arr Go.Proofs.Ytoojonapnifjoaa.QB Go.Proofs.YtoojonapnifjoaaW.PrintWords Go.Proofs.YtoojonapnifjoaaW.PrintLast Go.Proofs.YtoojonapnifjoaaW.PrintMore
set_option linter.unusedVariables false
set_option linter.unusedSimpArgs false
theorem same_self (a : List Int) (hl : a.length ≤ 281474976710656) (w : World) (A0 : Option Addr) (c0 : Nat) (A1 : Option Addr) (c1 : Nat) (hr0 : Kd.C (Kd.int .u8) w A0 a.length a) (hc0 : a.length ≤ c0) (hr1 : Kd.C (Kd.int .u8) w A1 a.length a) (hc1 : a.length ≤ c1) :
    Calls Try.prog 16 #[.slice A0 a.length c0, .slice A1 a.length c1] w fun e w' => e = .returned (.bool true) ∧ Drawn0 w w' := by
  have := same_any a a hl w A0 c0 A1 c1 hr0 hc0 hr1 hc1
  rw [decide_eq_true rfl] at this
  exact this
theorem flat_bound (ls : List (List Int)) (k : Nat) (hk : k ≤ ls.length) (h : ∀ j, j < k → (ls.getD j []).length ≤ 200) : (ls.take k).flatten.length ≤ 200 * k := by
  induction k with
  | zero => simp
  | succ k ih =>
    rw [flat_take ls k (by omega), List.length_append]
    have := ih (by omega) (fun j hj => h j (by omega))
    have := h k (by omega)
    omega
set_option maxHeartbeats 4000000 in
set_option maxRecDepth 100000 in
theorem MacParts_walk (w : World) (A0 : Option Addr) (c0 : Nat) (key : List Int) (hc0 : key.length ≤ c0) (hr0 : Kd.C (Kd.int .u8) w A0 key.length key) (w0 : key.length ≤ maxLen ∧ ∀ x ∈ key, (Lit.int .u8 x).wf = true) (A1 : Option Addr) (c1 : Nat) (ls : List (List Int)) (hc1 : ls.length ≤ c1) (hr1 : Kd.C (Kd.slice 5 (Kd.int .u8)) w A1 ls.length ls) (w1 : ls.length ≤ maxLen ∧ ∀ l ∈ ls, l.length ≤ maxLen ∧ ∀ x ∈ l, (Lit.int .u8 x).wf = true) :
    Calls Try.prog 9 #[.slice A0 key.length c0, .slice A1 ls.length c1] w fun e w' => e = .returned (.bool true) ∧ Below w.heap.size w w' := by
  have hm0 := hr0.2.1
  have hm1 := hr1.2.1
  by_cases hbig : 300 < key.length ∨ (key.length ≤ 300 ∧ 8 < ls.length)
  · clear hr0 hc0 hr1 hc1 w0 w1
    rcases hbig with h0 | ⟨h0, h1⟩
    all_goals
      go_enter Try.func9, Try.ntmps9
      go_wp2_with (go_at_call 27; refine (macAwake_any _).mono ?_; rintro e w1 ⟨rfl, hb⟩; have hb1 := Lib.hid hb; clear hb)
      go_ret
      exact ⟨rfl, hb1.out⟩
  · have h0 : key.length ≤ 300 := by omega
    have h1 : ls.length ≤ 8 := by omega
    clear hbig
    have hk := byt_wf w0.2
    have hbt : ∀ x ∈ ls.flatten, byt x := by
      intro x hx
      obtain ⟨l, hl, hxl⟩ := List.mem_flatten.1 hx
      exact byt_wf (w1.2 l hl).2 x hxl
    have hr0' := Lib.hid hr0
    have hr1' := Lib.hid hr1
    have hc0' := Lib.hid hc0
    have hk' := Lib.hid hk
    have hbt' := Lib.hid hbt
    clear hr0 hr1 hc0 hc1 w0 w1 hk hbt
    go_enter Try.func9, Try.ntmps9
    go_wp2_with fail
    go_loopw [5, 6] (fun v i wr => ∃ k : Nat, k ≤ ls.length ∧ i = .int .i64 k ∧ (∀ j, j < k → (ls.getD j []).length ≤ 200) ∧ Kd.R (Kd.int .u8) 5 wr w.heap.size (fun _ => True) v (ls.take k).flatten ∧ Below w.heap.size w wr) (fun _ i _ => ls.length - (intOf i).toNat)
    case atStart => exact ⟨0, Nat.zero_le _, rfl, fun j hj => absurd hj (Nat.not_lt_zero _), R_of_nums (own_empty _ _ _ _ _ rfl (Nat.le_refl _)), (Below.refl _ _).alloc (Nat.le_refl _) _⟩
    case round =>
      obtain ⟨k, hk, rfl, hsm, hR, hb⟩ := hrel
      have hR' := Lib.hid hR
      have hb' := Lib.hid hb
      have hsm' := Lib.hid hsm
      obtain ⟨Av, cv, rfl⟩ := Kd.R_slice hR
      clear hR hb hsm
      by_cases hlt : k < ls.length
      · obtain ⟨b, o, rfl, hrow⟩ := CC_row hr1'.out (by omega)
        obtain ⟨Aj, cj, hcell, hcj, hCj⟩ := hrow k hlt
        have hcell' := pw_cell_below hb'.out hcell
        have hft := flat_take ls k hlt
        have hfb := flat_bound ls k hk hsm'.out
        have hstep : (ls.getD k []).length ≤ 200 → ∀ j, j < k + 1 → (ls.getD j []).length ≤ 200 := fun h j hj => by
          by_cases e : j = k
          · subst e; exact h
          · exact hsm'.out j (by omega)
        obtain ⟨F, hF⟩ : ∃ F, F = (ls.take k).flatten := ⟨_, rfl⟩
        obtain ⟨lj, hlj⟩ : ∃ lj, lj = ls.getD k [] := ⟨_, rfl⟩
        rw [← hlj] at hcell' hCj hft hcj hstep
        rw [← hF] at hft hfb hR' ⊢
        have hft' := Lib.hid hft
        have hfb' := Lib.hid hfb
        have hstep' := Lib.hid hstep
        have hCj' := Lib.hid (Kd.C_below hCj hb'.out)
        have hjm := hCj.2.1
        clear hrow hcell hft hfb hstep hF hlj hCj
        by_cases h200 : 200 < lj.length
        · go_wp2_with (go_at_call 27; refine (macAwake_any _).mono ?_; rintro e w3 ⟨rfl, hb⟩; have hb3 := Lib.hid (below_step hb'.out hb); clear hb)
          go_ret
          exact ⟨rfl, hb3.out⟩
        · have h200' : lj.length ≤ 200 := by omega
          go_wp2_with (at_builtin; refine Kd.R_append_rows (Kd.int .u8) (w0 := w) w.heap.size rfl (.tmp 32) (.tmp 36) 22 5 (.int .u8 0) 1 rfl Try.underlying22 info5 rfl (by decide) (by omega) (.slice Av F.length cv) F lj _ _ _ (fun _ => True) (fun _ => False) rfl rfl hR'.out hCj'.out (fun _ _ h => h) (fun _ h => h.elim) (fun _ _ => trivial) hb'.out hb'.out.size (by have := hfb'.out; omega) ?_; intro v7 w7 hR7 hb7 hg7 hat7; have hR7' := Lib.hid hR7; have hb7' := Lib.hid hb7; clear hR7 hb7 hg7 hat7)
          go_roundw
          case rel => exact ⟨k + 1, by omega, by go_num, hstep'.out h200', by rw [hft'.out]; exact hR7'.out, hb7'.out⟩
          case measure => simp [intOf]; omega
      · obtain rfl : k = ls.length := by omega
        have hfb := flat_bound ls ls.length (Nat.le_refl _) hsm'.out
        rw [List.take_of_length_le (Nat.le_refl _)] at hR' hfb ⊢
        clear hsm' hlt hk
        have hcv := Lib.hid (Kd.R_reads' hR'.out).2.1
        have hCv := Lib.hid (Kd.R_reads' hR'.out).2.2
        have hBl := blockL_length key
        have hrt1 := fun (w1 : World) (hC0 : Kd.C (Kd.int .u8) w1 A0 key.length key) (hC1 : Kd.C (Kd.int .u8) w1 Av ls.flatten.length ls.flatten) => refTag_any key ls.flatten hk'.out hbt'.out (by omega) (by omega) w1 A0 c0 Av cv hC0 hc0'.out hC1 hcv.out
        have hrt2 := fun (w1 : World) (hC1 : Kd.C (Kd.int .u8) w1 Av ls.flatten.length ls.flatten) => refTag_any [] ls.flatten (by simp) hbt'.out (by simp) (by omega) w1 none 0 Av cv (Kd.C_nil _ _) (by simp) hC1 hcv.out
        have hnew := fun (w1 : World) (hC0 : Kd.C (Kd.int .u8) w1 A0 key.length key) => newKey_any A0 c0 key w1 hC0 (by omega)
        have htg1 := fun (w1 : World) (g : Nat) (hka : KeyAt w1 g (blockL key)) (hC : Kd.C (Kd.slice 5 (Kd.int .u8)) w1 A1 ls.length ls) => tag_any w1 _ (blockL key) hBl (own_key w1 g _ hka) A1 c1 ls 5 hC (by omega)
        have htg2 := fun (w1 : World) (hC : Kd.C (Kd.slice 5 (Kd.int .u8)) w1 A1 ls.length ls) => tag_any w1 _ (blockL []) (blockL_length _) (own_nil w1) A1 c1 ls 5 hC (by omega)
        have hfit : ∀ (w1 : World) (g : Nat) (A : Option Addr) (c : Nat), KeyAt w1 g (blockL key) → Kd.C (Kd.int .u8) w1 A (tagB (blockL key) ls.flatten).length (tagB (blockL key) ls.flatten) → (tagB (blockL key) ls.flatten).length ≤ c → Kd.C (Kd.slice 5 (Kd.int .u8)) w1 A1 ls.length ls → Calls Try.prog 34 #[.pointer (some ⟨g, 0, none⟩), .slice A (tagB (blockL key) ls.flatten).length c, .slice A1 ls.length c1] w1 fun e w' => e = .returned (.bool true) ∧ Below w1.heap.size w1 w' := fun w1 g A c hka hC hc hr => by
          have h := keyFits_any w1 _ (blockL key) hBl (own_key _ g _ hka) A c (tagB (blockL key) ls.flatten) hC hc (by rw [tagB_length]; decide) (byt_tag _ _) A1 c1 ls 5 hr (by omega)
          rw [decide_eq_true rfl] at h
          exact h
        have hsD := fun (w1 : World) (A c A' c') => same_self (tagB (blockL key) ls.flatten) (by rw [tagB_length]; decide) w1 A c A' c'
        have hsE := fun (w1 : World) (A c A' c') => same_self (tagB (blockL []) ls.flatten) (by rw [tagB_length]; decide) w1 A c A' c'
        obtain ⟨B, hB⟩ : ∃ B, B = blockL key := ⟨_, rfl⟩
        rw [← hB] at hrt1 hnew htg1 hfit hsD
        obtain ⟨E0, hE⟩ : ∃ D, D = tagB (blockL []) ls.flatten := ⟨_, rfl⟩
        rw [← hE] at hrt2 htg2 hsE
        obtain ⟨D, hD⟩ : ∃ D, D = tagB B ls.flatten := ⟨_, rfl⟩
        rw [← hD] at hrt1 htg1 hfit hsD
        rw [List.length_nil] at hrt2
        obtain ⟨F, hF⟩ : ∃ F, F = ls.flatten := ⟨_, rfl⟩
        rw [← hF] at hrt1 hrt2 hCv hcv
        rw [← hF]
        have hrt1' := Lib.hid hrt1
        have hrt2' := Lib.hid hrt2
        have hnew1 := Lib.hid hnew
        have hnew2 := Lib.hid hnew
        have htg1' := Lib.hid htg1
        have htg2' := Lib.hid htg2
        have hfit' := Lib.hid hfit
        have hsD' := Lib.hid hsD
        have hsE' := Lib.hid hsE
        clear hrt1 hrt2 hnew htg1 htg2 hfit hsD hsE hB hE hD hBl hfb hR' hF hbt'
        go_wp2_with (first
          | (go_at_call 29; refine (hrt1'.out _ (Kd.C_below hr0'.out hb'.out) hCv.out).mono ?_; rintro e w1 ⟨v, rfl, hR, hb⟩; obtain ⟨Ad, cd, rfl⟩ := Kd.R_slice hR; have hCd := Lib.hid (Kd.R_reads' hR).2.2; have hcd := Lib.hid (Kd.R_reads' hR).2.1; have hb1 := Lib.hid (below_step hb'.out hb); have hCv1 := Lib.hid (Kd.C_below hCv.out hb); clear hR hb hrt1' hb' hCv)
          | (go_at_call 32; refine (hnew1.out _ (Kd.C_below hr0'.out hb1.out)).mono ?_; clear hnew1; rintro e w2 ⟨g, rfl, hg, hk, hb⟩; have hk2 := Lib.hid hk; have hb2 := Lib.hid (below_step hb1.out hb); have hCd2 := Lib.hid (Kd.C_below hCd.out hb); have hCv2 := Lib.hid (Kd.C_below hCv1.out hb); clear hg hk hb hb1 hCd hCv1)
          | (go_at_call 33; refine (htg1'.out _ g hk2.out (Kd.C_below hr1'.out hb2.out)).mono ?_; clear htg1'; rintro e w3 ⟨v, rfl, hR, hb⟩; obtain ⟨At, ct, rfl⟩ := Kd.R_slice hR; have hCt := Lib.hid (Kd.R_reads' hR).2.2; have hct := Lib.hid (Kd.R_reads' hR).2.1; have hb3 := Lib.hid (below_step hb2.out hb); have hCd3 := Lib.hid (Kd.C_below hCd2.out hb); have hCv3 := Lib.hid (Kd.C_below hCv2.out hb); clear hR hb hb2 hCd2 hCv2 hk2)
          | (go_at_call 16; refine (hsD'.out _ _ _ _ _ hCt.out hct.out hCd3.out hcd.out).mono ?_; clear hsD'; rintro e w4 ⟨rfl, hd⟩; have hb4 := Lib.hid (below_step hb3.out hd.below); have hCd4 := Lib.hid (Kd.C_below hCd3.out hd.below); have hCv4 := Lib.hid (Kd.C_below hCv3.out hd.below); clear hd hb3 hCd3 hCv3 hCt hct)
          | (go_at_call 32; refine (hnew2.out _ (Kd.C_below hr0'.out hb4.out)).mono ?_; clear hnew2; rintro e w5 ⟨g5, rfl, hg, hk, hb⟩; have hk5 := Lib.hid hk; have hb5 := Lib.hid (below_step hb4.out hb); have hCd5 := Lib.hid (Kd.C_below hCd4.out hb); have hCv5 := Lib.hid (Kd.C_below hCv4.out hb); clear hg hk hb hb4 hCd4 hCv4)
          | (go_at_call 34; refine (hfit'.out _ g5 _ _ hk5.out hCd5.out hcd.out (Kd.C_below hr1'.out hb5.out)).mono ?_; rintro e w6 ⟨rfl, hb⟩; have hb6 := Lib.hid (below_step hb5.out hb); have hCv6 := Lib.hid (Kd.C_below hCv5.out hb); clear hb hb5 hCd5 hCv5 hk5 hcd)
          | (go_at_call 33; refine (htg2'.out _ (Kd.C_below hr1'.out hb6.out)).mono ?_; rintro e w7 ⟨v, rfl, hR, hb⟩; obtain ⟨At, ct, rfl⟩ := Kd.R_slice hR; have hCt := Lib.hid (Kd.R_reads' hR).2.2; have hct := Lib.hid (Kd.R_reads' hR).2.1; have hb7 := Lib.hid (below_step hb6.out hb); have hCv7 := Lib.hid (Kd.C_below hCv6.out hb); clear hR hb hb6 hCv6)
          | (go_at_call 29; refine (hrt2'.out _ hCv7.out).mono ?_; rintro e w8 ⟨v, rfl, hR, hb⟩; obtain ⟨Au, cu, rfl⟩ := Kd.R_slice hR; have hCu := Lib.hid (Kd.R_reads' hR).2.2; have hcu := Lib.hid (Kd.R_reads' hR).2.1; have hb8 := Lib.hid (below_step hb7.out hb); have hCt8 := Lib.hid (Kd.C_below hCt.out hb); clear hR hb hb7 hCv7 hCt)
          | (go_at_call 16; refine (hsE'.out _ _ _ _ _ hCt8.out hct.out hCu.out hcu.out).mono ?_; rintro e w9 ⟨rfl, hd⟩; have hb9 := Lib.hid (below_step hb8.out hd.below); clear hd hb8)
          | (go_at_call 27; refine (macAwake_any _).mono ?_; rintro e w10 ⟨rfl, hb⟩; have hb10 := Lib.hid (below_step hb9.out hb); clear hb))
        go_ret
        exact ⟨rfl, hb10.out⟩
end Go.Proofs.Ytoojonapnifjoaa.Own
