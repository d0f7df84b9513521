/- Plain laws on bytes as elements of the field of 256: reduction, powers, inverses. -/
import Derived.Test.YthmahaoadoeoaaaGF
namespace Go.Proofs.Ythmahaoadoeoaaa.Core
abbrev P8 : BitVec 8 := 27#8
def prodV : Nat → BitVec 8 → BitVec 8 → BitVec 16
  | 0, _, _ => 0#16
  | n + 1, a, b => prodV n a b ^^^ sel (b.getLsbD n) ((a.setWidth 16) <<< n)
def redV : Nat → BitVec 16 → BitVec 16
  | 0, p => p
  | m + 1, p => redV m (p ^^^ sel (p.getLsbD (8 + m)) (283#16 <<< m))
theorem redV_xor (m : Nat) (p q : BitVec 16) : redV m (p ^^^ q) = redV m p ^^^ redV m q := by
  induction m generalizing p q with
  | zero => rfl
  | succ m ih =>
    simp only [redV]
    rw [← ih]
    congr 1
    rw [BitVec.getLsbD_xor, xor_sel]
    ac_rfl
theorem redV_zero (m : Nat) : redV m 0#16 = 0#16 := by
  have := redV_xor m 0#16 0#16
  simpa using this
theorem red_base0 : ∀ n : Fin 8, ∀ a : Fin 256, (redV 7 ((BitVec.ofNat 16 a.val) <<< n.val)).setWidth 8 = dbls P8 n.val (BitVec.ofNat 8 a.val) := by decide +kernel
theorem red_base (n : Fin 8) (a : BitVec 8) : (redV 7 ((a.setWidth 16) <<< n.val)).setWidth 8 = dbls P8 n.val a := by
  have := red_base0 n ⟨a.toNat, a.isLt⟩
  have e1 : BitVec.ofNat 16 a.toNat = a.setWidth 16 := by apply BitVec.eq_of_toNat_eq; simp
  have e2 : BitVec.ofNat 8 a.toNat = a := by apply BitVec.eq_of_toNat_eq; simp
  simp only [e1, e2] at this
  exact this
theorem red_prod (n : Nat) (hn : n ≤ 8) (a b : BitVec 8) : (redV 7 (prodV n a b)).setWidth 8 = muls P8 n a b := by
  induction n with
  | zero => simp [prodV, muls, redV_zero]
  | succ n ih =>
    rw [prodV, redV_xor, BitVec.setWidth_xor, ih (by omega), muls]
    congr 1
    cases b.getLsbD n
    · simp [sel, redV_zero]
    · simpa [sel] using red_base ⟨n, by omega⟩ a
theorem red_all (a b : BitVec 8) : (redV 7 (prodV 8 a b)).setWidth 8 = mul P8 a b := red_prod 8 (Nat.le_refl _) a b
/-- powers -/
def pw (a : BitVec 8) : Nat → BitVec 8
  | 0 => 1#8
  | n + 1 => mul P8 (pw a n) a
theorem pw_add (a : BitVec 8) (m n : Nat) : pw a (m + n) = mul P8 (pw a m) (pw a n) := by
  induction n with
  | zero => simp [pw, mul_one]
  | succ n ih => rw [← Nat.add_assoc, pw, ih, pw, mul_assoc]
theorem pw_sq (a : BitVec 8) (n : Nat) : pw (mul P8 a a) n = pw a (2 * n) := by
  induction n with
  | zero => rfl
  | succ n ih => rw [pw, ih, show 2 * (n + 1) = 2 * n + 1 + 1 from by omega, pw, pw, mul_assoc]
theorem pw_one (a : BitVec 8) : pw a 1 = a := by simp [pw, one_mul]
theorem pw_zero (n : Nat) (h : 0 < n) : pw 0#8 n = 0#8 := by
  obtain ⟨m, rfl⟩ : ∃ m, n = m + 1 := ⟨n - 1, by omega⟩
  rw [pw, mul, muls_zero_right]
/-- times three, on numbers -/
def t3 (x : Nat) : Nat := (x ^^^ (if x < 128 then 2 * x else (2 * x) ^^^ 283))
def t3s : Nat → Nat → List Nat
  | 0, _ => []
  | n + 1, x => x :: t3s n (t3 x)
theorem all3 : ∀ a : Fin 256, a.val ≠ 0 → (t3s 255 1).contains a.val = true := by decide +kernel
def it3 : Nat → Nat → Nat
  | 0, x => x
  | n + 1, x => it3 n (t3 x)
theorem mem_t3s (n : Nat) : ∀ x y, y ∈ t3s n x → ∃ k, k < n ∧ y = it3 k x := by
  induction n with
  | zero => intro x y h; simp [t3s] at h
  | succ n ih =>
    intro x y h
    simp only [t3s, List.mem_cons] at h
    rcases h with rfl | h
    · exact ⟨0, by omega, rfl⟩
    · obtain ⟨k, hk, e⟩ := ih _ _ h
      exact ⟨k + 1, by omega, e⟩
theorem t3_mul (a : BitVec 8) : (mul P8 a 3#8).toNat = t3 a.toNat := by
  have e : mul P8 a 3#8 = a ^^^ dbl P8 a := by
    simp [mul, muls, sel, dbls]
  rw [e, BitVec.toNat_xor, t3]
  congr 1
  have ha := a.isLt
  rw [dbl, BitVec.msb_eq_decide]
  by_cases h : a.toNat < 128
  · rw [if_pos h]
    have : decide (2 ^ (8 - 1) ≤ a.toNat) = false := by simp; omega
    rw [this]
    simp [Nat.shiftLeft_eq]; omega
  · rw [if_neg h]
    have : decide (2 ^ (8 - 1) ≤ a.toNat) = true := by simp; omega
    rw [this]
    have key : ∀ x : Fin 256, 128 ≤ x.val → ((x.val <<< 1) % 256) ^^^ 27 = (2 * x.val) ^^^ 283 := by decide +kernel
    simpa using key ⟨a.toNat, ha⟩ (by simpa using h)
theorem it3_pw (k : Nat) (a : BitVec 8) : it3 k a.toNat = (mul P8 a (pw 3#8 k)).toNat := by
  induction k generalizing a with
  | zero => simp [it3, pw, mul_one]
  | succ k ih =>
    rw [it3, ← t3_mul, ih, mul_assoc, show k + 1 = 1 + k from by omega, pw_add, pw_one]
theorem pw3_255 : pw 3#8 255 = 1#8 := by
  have h := it3_pw 255 1#8
  rw [one_mul] at h
  have : it3 255 1 = 1 := by decide +kernel
  apply BitVec.eq_of_toNat_eq
  rw [← h]
  exact this
theorem pw_pw (a : BitVec 8) (m n : Nat) : pw (pw a m) n = pw a (m * n) := by
  induction n with
  | zero => rfl
  | succ n ih => rw [pw, ih, Nat.mul_succ, pw_add]
theorem pw_of_one (n : Nat) : pw 1#8 n = 1#8 := by
  induction n with
  | zero => rfl
  | succ n ih => rw [pw, ih, mul_one]
theorem pw_255 (a : BitVec 8) (h : a ≠ 0#8) : pw a 255 = 1#8 := by
  have hm := all3 ⟨a.toNat, a.isLt⟩ (by intro e; exact h (BitVec.eq_of_toNat_eq (by simpa using e)))
  obtain ⟨k, _, hk⟩ := mem_t3s 255 1 a.toNat (by simpa using hm)
  have e : a = pw 3#8 k := by
    have := it3_pw k 1#8
    rw [one_mul] at this
    exact BitVec.eq_of_toNat_eq (hk.trans this)
  rw [e, pw_pw, Nat.mul_comm, ← pw_pw, pw3_255, pw_of_one]
theorem pw_mod (a : BitVec 8) (h : a ≠ 0#8) (n : Nat) : pw a (n + 255) = pw a n := by rw [pw_add, pw_255 a h, mul_one]
theorem inv_mul (a : BitVec 8) (h : a ≠ 0#8) : mul P8 a (pw a 254) = 1#8 := by
  rw [mul_comm]
  exact pw_255 a h
theorem inv_unique (a b : BitVec 8) (h : mul P8 a b = 1#8) : b = pw a 254 := by
  have ha : a ≠ 0#8 := by
    rintro rfl
    rw [mul, muls_zero_left] at h
    exact absurd h (by decide)
  have : mul P8 (pw a 254) (mul P8 a b) = mul P8 (pw a 254) 1#8 := by rw [h]
  rw [← mul_assoc, mul_comm P8 (pw a 254) a, inv_mul a ha, one_mul, mul_one] at this
  exact this
end Go.Proofs.Ythmahaoadoeoaaa.Core
