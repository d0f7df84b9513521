/- CoN, pruned (slim.py). -/
import Derived.Test.YtiogdomjmjiahaaZE14
import Derived.Laws.RangeAny
namespace Go.Proofs.Ytiogdomjmjiahaa.Own
open Go.RowKit Go.Proofs.Ytiogdomjmjiahaa.Arr Go.Proofs.Ytiogdomjmjiahaa.QA Go.Proofs.Ytiogdomjmjiahaa.QB Go.Proofs.YtiogdomjmjiahaaW.PrintWords Go.Proofs.YtiogdomjmjiahaaW.PrintLast Go.Proofs.YtiogdomjmjiahaaW.PrintMore
set_option linter.unusedVariables false
set_option linter.unusedSimpArgs false
def numV (s : ByteArray) : Nat → Int
  | 0 => 0
  | k + 1 => 10 * numV s k + (bt s (k : Int) - 48)
def digB (c : Int) : Prop := 48 ≤ c ∧ c ≤ 57
instance (c : Int) : Decidable (digB c) := by unfold digB; infer_instance
def digsB (s : ByteArray) (k : Nat) : Prop := ∀ i, i < k → digB (bt s (i : Int))
instance (s : ByteArray) (k : Nat) : Decidable (digsB s k) := by unfold digsB; infer_instance
theorem numV_bd (s : ByteArray) (k : Nat) (h : digsB s k) : 0 ≤ numV s k ∧ numV s k < 10 ^ k := by
  induction k with
  | zero => simp [numV]
  | succ k ih =>
    obtain ⟨h0, h1⟩ := ih (fun i hi => h i (by omega))
    obtain ⟨h2, h3⟩ := h k (by omega)
    have hp : (10 : Int) ^ (k + 1) = 10 ^ k * 10 := Int.pow_succ 10 k
    rw [numV]
    omega
theorem numV_le (s : ByteArray) (k : Nat) (h : digsB s k) (hk : k ≤ 8) : 0 ≤ numV s k ∧ numV s k ≤ 99999999 := by
  obtain ⟨h0, h1⟩ := numV_bd s k h
  have : (10 : Int) ^ k ≤ 10 ^ 8 := by
    have : (10 : Nat) ^ k ≤ 10 ^ 8 := Nat.pow_le_pow_right (by decide) hk
    exact_mod_cast this
  exact ⟨h0, by omega⟩
def conNum (s : ByteArray) : Option Int := if s.size < 1 ∨ 9 < s.size ∨ 1 < s.size ∧ bt s 0 = 48 then none else if digsB s s.size then some (numV s s.size) else none
def numRes (s : ByteArray) : Int × Bool := match conNum s with | some n => (n, true) | none => (0, false)
theorem bt_nat (s : ByteArray) (k : Nat) (h : k < s.size) : bt s (k : Int) = ((s[k]'h).toNat : Int) := by
  have := bt_at s (k : Int) (by rw [Int.toNat_natCast]; exact h)
  rw [← this]
  simp
set_option maxHeartbeats 4000000 in
set_option maxRecDepth 100000 in
theorem number_loop (s : ByteArray) (w : World) (h1 : 1 ≤ s.size) (h9 : s.size ≤ 9) (hz : ¬ (1 < s.size ∧ bt s 0 = 48)) :
    Calls Try.prog 45 #[.string s] w fun e w' => e = .returned (.tuple #[.int .i64 (if digsB s s.size then numV s s.size else 0), .bool (decide (digsB s s.size))]) ∧ Below w.heap.size w w' := by
  have hs1 : ¬ (s.size : Int) < 1 := by omega
  have hs9 : ¬ (9 : Int) < (s.size : Int) := by omega
  have hb0 : ∀ h : 0 < s.size, (((s[0]'h).toNat : Nat) : Int) = bt s 0 := fun h => (bt_nat s 0 h).symm
  obtain ⟨R, hR⟩ : ∃ R : Value, R = .tuple #[.int .i64 (if digsB s s.size then numV s s.size else 0), .bool (decide (digsB s s.size))] := ⟨_, rfl⟩
  have hR' := Lib.hid hR
  have h9' := Lib.hid h9
  have hpos : 0 < s.size := by omega
  have hbt := Lib.hid (fun k h => bt_nat s k h)
  rw [← hR]
  clear hR h9 h1
  by_cases hgt : 1 < s.size
  · have hgt' : (1 : Int) < (s.size : Int) := by omega
    have hz' : (bt s 0 == 48) = false := by
      cases h : bt s 0 == 48
      · rfl
      · exact absurd ⟨hgt, by simpa using h⟩ hz
    clear hz hgt
    go_enter Try.func45, Try.ntmps45
    go_wp2_with fail
    go_loopw [4] (fun u wr => ∃ k : Nat, k ≤ s.size ∧ wr = w.iter s k ∧ u = .int .i64 (numV s k) ∧ digsB s k) (fun _ wr => s.size - wr.iterPos w.heap.size)
    case atStart => exact ⟨0, Nat.zero_le _, rfl, rfl, fun i hi => absurd hi (Nat.not_lt_zero _)⟩
    case round =>
      obtain ⟨k, hk, rfl, rfl, hd⟩ := hrel
      have hd' := Lib.hid hd
      by_cases hlt : k < s.size
      · obtain ⟨hv0, hv1⟩ := numV_le s k hd (by have := h9'.out; omega)
        have hbk := hbt.out k hlt
        by_cases hhi : 128 ≤ (s[k]'hlt).toNat
        · have hbad : ¬ digsB s s.size := fun h => by have := h k hlt; rw [hbk] at this; unfold digB at this; omega
          have hrun := decode_high s k hlt hhi
          obtain ⟨c, hc⟩ : ∃ c, c = (Utf8.decode s k).1 := ⟨_, rfl⟩
          obtain ⟨d, hdd⟩ : ∃ d, d = (Utf8.decode s k).2 := ⟨_, rfl⟩
          have hnx : ∀ ty, (Instr.next (.pointer (some ⟨w.heap.size, 0, none⟩)) true ty).run Try.prog (w.iter s k) = .ok (.tuple #[.bool true, .int .i64 k, .int .i32 (c : Int)]) (w.iter s (k + d)) := fun ty => by rw [hc, hdd]; exact run_next_any w s k ty hlt
          have hc1 : (57 : Int) < (c : Int) := by omega
          have hc0 : ¬ (c : Int) < 48 := by omega
          have hRb := Lib.hid (show R = .tuple #[.int .i64 0, .bool false] by rw [hR'.out, if_neg hbad, decide_eq_false hbad])
          clear hd hbk hhi hbad hrun hc hdd hv0 hv1 hb0 hpos hk
          go_wp2_with fail
          go_ret2
          exact ⟨by rw [hRb.out]; rfl, (Below.refl _ _).alloc (Nat.le_refl _) _⟩
        · have ha : (s[k]'hlt).toNat < 128 := by omega
          obtain ⟨c, hc⟩ : ∃ c : Int, c = bt s (k : Int) := ⟨_, rfl⟩
          have hnx : ∀ ty, (Instr.next (.pointer (some ⟨w.heap.size, 0, none⟩)) true ty).run Try.prog (w.iter s k) = .ok (.tuple #[.bool true, .int .i64 k, .int .i32 c]) (w.iter s (k + 1)) := fun ty => by rw [hc, hbk]; exact run_next_ascii w s k ty hlt ha
          by_cases hdg : digB c
          · have hc0 : ¬ c < 48 := by have := hdg.1; omega
            have hc1 : ¬ 57 < c := by have := hdg.2; omega
            have hn := Lib.hid (show numV s (k + 1) = 10 * numV s k + (c - 48) by rw [numV, hc])
            have hd1 := Lib.hid (show digsB s (k + 1) from fun i hi => by
              by_cases e : i = k
              · subst e; rw [← hc]; exact hdg
              · exact hd i (by omega))
            obtain ⟨n, hnn⟩ : ∃ n, n = numV s k := ⟨_, rfl⟩
            rw [← hnn] at hn hv0 hv1 ⊢
            have hc2 : 48 ≤ c := hdg.1
            have hc3 : c ≤ 57 := hdg.2
            clear hd hd' hbk hhi ha hc hb0 hpos hnn hdg hc0 hc1
            go_wp2_with fail
            refine ⟨⟨k + 1, by omega, rfl, by rw [hn.out], hd1.out⟩, ?measure⟩
            case measure => simp; omega
          · have hbad : ¬ digsB s s.size := fun h => hdg (by rw [hc]; exact h k hlt)
            have hRb := Lib.hid (show R = .tuple #[.int .i64 0, .bool false] by rw [hR'.out, if_neg hbad, decide_eq_false hbad])
            by_cases hc0 : c < 48
            · clear hd hd' hbk hhi ha hc hb0 hpos hdg hbad hv0 hv1
              go_wp2_with fail
              go_ret2
              exact ⟨by rw [hRb.out]; rfl, (Below.refl _ _).alloc (Nat.le_refl _) _⟩
            · have hc1 : 57 < c := by unfold digB at hdg; omega
              clear hd hd' hbk hhi ha hc hb0 hpos hdg hbad hv0 hv1
              go_wp2_with fail
              go_ret2
              exact ⟨by rw [hRb.out]; rfl, (Below.refl _ _).alloc (Nat.le_refl _) _⟩
      · obtain rfl : k = s.size := by omega
        have hRb := Lib.hid (show R = .tuple #[.int .i64 (numV s s.size), .bool true] by rw [hR'.out, if_pos hd, decide_eq_true hd])
        obtain ⟨n, hnn⟩ : ∃ n, n = numV s s.size := ⟨_, rfl⟩
        rw [← hnn] at hRb ⊢
        have hnx : ∀ ty, (Instr.next (.pointer (some ⟨w.heap.size, 0, none⟩)) true ty).run Try.prog (w.iter s s.size) = .ok (.tuple #[.bool false]) (w.iter s s.size) := fun ty => run_next_end w s s.size ty (Nat.lt_irrefl _)
        clear hd hb0 hpos hnn hk hlt
        go_wp2_with fail
        go_ret2
        exact ⟨by rw [hRb.out]; rfl, (Below.refl _ _).alloc (Nat.le_refl _) _⟩
  · have hgt' : ¬ (1 : Int) < (s.size : Int) := by omega
    clear hz hgt
    go_enter Try.func45, Try.ntmps45
    go_wp2_with fail
    go_loopw [4] (fun u wr => ∃ k : Nat, k ≤ s.size ∧ wr = w.iter s k ∧ u = .int .i64 (numV s k) ∧ digsB s k) (fun _ wr => s.size - wr.iterPos w.heap.size)
    case atStart => exact ⟨0, Nat.zero_le _, rfl, rfl, fun i hi => absurd hi (Nat.not_lt_zero _)⟩
    case round =>
      obtain ⟨k, hk, rfl, rfl, hd⟩ := hrel
      have hd' := Lib.hid hd
      by_cases hlt : k < s.size
      · obtain ⟨hv0, hv1⟩ := numV_le s k hd (by have := h9'.out; omega)
        have hbk := hbt.out k hlt
        by_cases hhi : 128 ≤ (s[k]'hlt).toNat
        · have hbad : ¬ digsB s s.size := fun h => by have := h k hlt; rw [hbk] at this; unfold digB at this; omega
          have hrun := decode_high s k hlt hhi
          obtain ⟨c, hc⟩ : ∃ c, c = (Utf8.decode s k).1 := ⟨_, rfl⟩
          obtain ⟨d, hdd⟩ : ∃ d, d = (Utf8.decode s k).2 := ⟨_, rfl⟩
          have hnx : ∀ ty, (Instr.next (.pointer (some ⟨w.heap.size, 0, none⟩)) true ty).run Try.prog (w.iter s k) = .ok (.tuple #[.bool true, .int .i64 k, .int .i32 (c : Int)]) (w.iter s (k + d)) := fun ty => by rw [hc, hdd]; exact run_next_any w s k ty hlt
          have hc1 : (57 : Int) < (c : Int) := by omega
          have hc0 : ¬ (c : Int) < 48 := by omega
          have hRb := Lib.hid (show R = .tuple #[.int .i64 0, .bool false] by rw [hR'.out, if_neg hbad, decide_eq_false hbad])
          clear hd hbk hhi hbad hrun hc hdd hv0 hv1 hb0 hpos hk
          go_wp2_with fail
          go_ret2
          exact ⟨by rw [hRb.out]; rfl, (Below.refl _ _).alloc (Nat.le_refl _) _⟩
        · have ha : (s[k]'hlt).toNat < 128 := by omega
          obtain ⟨c, hc⟩ : ∃ c : Int, c = bt s (k : Int) := ⟨_, rfl⟩
          have hnx : ∀ ty, (Instr.next (.pointer (some ⟨w.heap.size, 0, none⟩)) true ty).run Try.prog (w.iter s k) = .ok (.tuple #[.bool true, .int .i64 k, .int .i32 c]) (w.iter s (k + 1)) := fun ty => by rw [hc, hbk]; exact run_next_ascii w s k ty hlt ha
          by_cases hdg : digB c
          · have hc0 : ¬ c < 48 := by have := hdg.1; omega
            have hc1 : ¬ 57 < c := by have := hdg.2; omega
            have hn := Lib.hid (show numV s (k + 1) = 10 * numV s k + (c - 48) by rw [numV, hc])
            have hd1 := Lib.hid (show digsB s (k + 1) from fun i hi => by
              by_cases e : i = k
              · subst e; rw [← hc]; exact hdg
              · exact hd i (by omega))
            obtain ⟨n, hnn⟩ : ∃ n, n = numV s k := ⟨_, rfl⟩
            rw [← hnn] at hn hv0 hv1 ⊢
            have hc2 : 48 ≤ c := hdg.1
            have hc3 : c ≤ 57 := hdg.2
            clear hd hd' hbk hhi ha hc hb0 hpos hnn hdg hc0 hc1
            go_wp2_with fail
            refine ⟨⟨k + 1, by omega, rfl, by rw [hn.out], hd1.out⟩, ?measure⟩
            case measure => simp; omega
          · have hbad : ¬ digsB s s.size := fun h => hdg (by rw [hc]; exact h k hlt)
            have hRb := Lib.hid (show R = .tuple #[.int .i64 0, .bool false] by rw [hR'.out, if_neg hbad, decide_eq_false hbad])
            by_cases hc0 : c < 48
            · clear hd hd' hbk hhi ha hc hb0 hpos hdg hbad hv0 hv1
              go_wp2_with fail
              go_ret2
              exact ⟨by rw [hRb.out]; rfl, (Below.refl _ _).alloc (Nat.le_refl _) _⟩
            · have hc1 : 57 < c := by unfold digB at hdg; omega
              clear hd hd' hbk hhi ha hc hb0 hpos hdg hbad hv0 hv1
              go_wp2_with fail
              go_ret2
              exact ⟨by rw [hRb.out]; rfl, (Below.refl _ _).alloc (Nat.le_refl _) _⟩
      · obtain rfl : k = s.size := by omega
        have hRb := Lib.hid (show R = .tuple #[.int .i64 (numV s s.size), .bool true] by rw [hR'.out, if_pos hd, decide_eq_true hd])
        obtain ⟨n, hnn⟩ : ∃ n, n = numV s s.size := ⟨_, rfl⟩
        rw [← hnn] at hRb ⊢
        have hnx : ∀ ty, (Instr.next (.pointer (some ⟨w.heap.size, 0, none⟩)) true ty).run Try.prog (w.iter s s.size) = .ok (.tuple #[.bool false]) (w.iter s s.size) := fun ty => run_next_end w s s.size ty (Nat.lt_irrefl _)
        clear hd hb0 hpos hnn hk hlt
        go_wp2_with fail
        go_ret2
        exact ⟨by rw [hRb.out]; rfl, (Below.refl _ _).alloc (Nat.le_refl _) _⟩
theorem number_any (s : ByteArray) (w : World) : Calls Try.prog 45 #[.string s] w fun e w' => e = .returned (.tuple #[.int .i64 (numRes s).1, .bool (numRes s).2]) ∧ Below w.heap.size w w' := by
  by_cases h : s.size < 1 ∨ 9 < s.size ∨ 1 < s.size ∧ bt s 0 = 48
  · have e : numRes s = (0, false) := by unfold numRes conNum; rw [if_pos h]
    rw [e]
    by_cases h1 : s.size < 1
    · have h1' : (s.size : Int) < 1 := by omega
      clear h h1 e
      go_enter Try.func45, Try.ntmps45
      go_wp2_with fail
      go_ret2
      exact ⟨rfl, Below.refl _ _⟩
    have h1' : ¬ (s.size : Int) < 1 := by omega
    by_cases h9 : 9 < s.size
    · have h9' : (9 : Int) < (s.size : Int) := by omega
      clear h h1 e h9
      go_enter Try.func45, Try.ntmps45
      go_wp2_with fail
      go_ret2
      exact ⟨rfl, Below.refl _ _⟩
    have h9' : ¬ (9 : Int) < (s.size : Int) := by omega
    have h2 : 1 < s.size ∧ bt s 0 = 48 := by omega
    have hgt' : (1 : Int) < (s.size : Int) := by omega
    have hb0 : ∀ h : 0 < s.size, (((s[0]'h).toNat : Nat) : Int) = bt s 0 := fun h => (bt_nat s 0 h).symm
    have hz' : (bt s 0 == 48) = true := by rw [h2.2]; rfl
    have hpos : 0 < s.size := by omega
    clear h h1 e h9 h2
    go_enter Try.func45, Try.ntmps45
    go_wp2_with fail
    go_ret2
    exact ⟨rfl, Below.refl _ _⟩
  · have e : numRes s = (if digsB s s.size then numV s s.size else 0, decide (digsB s s.size)) := by
      unfold numRes conNum
      rw [if_neg h]
      by_cases hd : digsB s s.size
      · rw [if_pos hd, if_pos hd, decide_eq_true hd]
      · rw [if_neg hd, if_neg hd, decide_eq_false hd]
    rw [e]
    exact number_loop s w (by omega) (by omega) (fun h2 => h (.inr (.inr h2)))
def console_Number.f (s : ByteArray) : Option (Int × Bool) := some (numRes s)
theorem console_Number.calls (a0 : ByteArray) (r1 : Int) (r2 : Bool) (w : World) (h : console_Number.f a0 = some (r1, r2)) :
    Calls Try.prog 45 #[.string a0] w fun e w' => e = .returned (.tuple #[.int .i64 r1, .bool r2]) ∧ Below w.heap.size w w' := by
  have h' : numRes a0 = (r1, r2) := Option.some.inj h
  have := number_any a0 w
  rw [h'] at this
  exact this
end Go.Proofs.Ytiogdomjmjiahaa.Own
