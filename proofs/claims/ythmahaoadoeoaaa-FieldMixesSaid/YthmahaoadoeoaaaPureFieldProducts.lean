/- The law FieldProducts: what the printed functions answer, said of bytes as elements of the field of 256 elements. -/
import Derived.Test.YthmahaoadoeoaaaPFieldProductsx1
import Derived.Test.YthmahaoadoeoaaaF8
namespace Go.Proofs.Ythmahaoadoeoaaa.Pure
open Go.RowKit Go.Proofs.Ythmahaoadoeoaaa.PFieldProducts Go.Proofs.YthmahaoadoeoaaaW.PrintWords Go.Proofs.YthmahaoadoeoaaaW.PrintLast Go.Proofs.Ythmahaoadoeoaaa.Core

def B (v : BitVec 8) : Int := (v.toNat : Int)
theorem B_lo (v : BitVec 8) : 0 ≤ B v := Int.natCast_nonneg _
theorem B_hi (v : BitVec 8) : B v < 256 := by have := v.isLt; unfold B; omega
theorem B_inj {a b : BitVec 8} (h : B a = B b) : a = b := BitVec.eq_of_toNat_eq (by unfold B at h; omega)
theorem B_iff {a b : BitVec 8} : B a = B b ↔ a = b := ⟨B_inj, fun h => by rw [h]⟩
theorem B_of (x : Int) (h : (Lit.int .u8 x).wf = true) : ∃ v, x = B v := by
  simp [Lit.wf, IntKind.min, IntKind.max, IntKind.signed, IntKind.bits] at h
  obtain ⟨n, rfl⟩ := Int.eq_ofNat_of_zero_le h.1
  exact ⟨BitVec.ofNat 8 n, by unfold B; simp; omega⟩
theorem xor8 (a b : BitVec 8) : Go.bits .xor .u8 (B a) (B b) = B (a ^^^ b) := by
  have h := (a ^^^ b).isLt
  have e : Go.bits .xor .u8 (B a) (B b) = IntKind.u8.wrap (((BitVec.ofInt 8 (a.toNat : Int)) ^^^ (BitVec.ofInt 8 (b.toNat : Int))).toNat : Int) := rfl
  rw [e, BitVec.ofInt_natCast, BitVec.ofInt_natCast, BitVec.ofNat_toNat, BitVec.ofNat_toNat, BitVec.setWidth_eq, BitVec.setWidth_eq, IntKind.wrap_u8]
  unfold B; omega
theorem and8_1 (a : BitVec 8) : Go.bits .and .u8 (B a) 1 = if a.getLsbD 0 then 1 else 0 := by
  have e : Go.bits .and .u8 (B a) 1 = B a % 2 ^ 1 := bits_mask .u8 8 (by decide) wraps_u8 1 (by decide) _ (B_lo a) (by have := B_hi a; omega)
  rw [e]
  have : a.getLsbD 0 = decide (a.toNat % 2 = 1) := by
    simp [BitVec.getLsbD, Nat.testBit_zero]
  rw [this]
  unfold B
  by_cases h : a.toNat % 2 = 1 <;> simp [h] <;> omega
theorem shl8 (a : BitVec 8) : (B a * (2 : Int)) % (256 : Int) = B (a <<< 1) := by
  unfold B; simp [BitVec.toNat_shiftLeft, Nat.shiftLeft_eq]
theorem shr8 (a : BitVec 8) : B a / (2 : Int) = B (a >>> 1) := by
  unfold B; simp [BitVec.toNat_ushiftRight, Nat.shiftRight_eq_div_pow]
theorem w64 (x : Int) (h0 : -9223372036854775808 ≤ x) (h1 : x < 9223372036854775808) : wrap64 x = x := by unfold wrap64; omega

theorem times_eq (a : BitVec 8) : field_Times.f (B a) = some (B (dbl P8 a)) := by
  unfold field_Times.f
  rw [shl8, show (27 : Int) = B 27#8 from rfl, xor8, dbl]
  have hm : a.msb = decide (B a ≥ 128) := by
    rw [BitVec.msb_eq_decide]; unfold B; simp; omega
  rw [hm]
  by_cases h : B a ≥ 128
  · rw [if_pos h]; simp [h]
  · rw [if_neg h]; simp [h]
theorem mul_l0 (n : Nat) : ∀ (k : Nat) (a b o : BitVec 8), b.toNat < 2 ^ n → n < k → field_Mul.l0 k (B a) (B b) (B o) = some (B (o ^^^ muls P8 n a b)) := by
  induction n with
  | zero =>
    intro k a b o hb hk
    obtain ⟨k, rfl⟩ : ∃ m, k = m + 1 := ⟨k - 1, by omega⟩
    have : B b = 0 := by unfold B; omega
    simp only [field_Mul.l0]
    rw [if_pos this]; simp [muls]
  | succ n ih =>
    intro k a b o hb hk
    obtain ⟨k, rfl⟩ : ∃ m, k = m + 1 := ⟨k - 1, by omega⟩
    simp only [field_Mul.l0]
    by_cases h0 : B b = 0
    · rw [if_pos h0]
      have : b = 0#8 := by apply B_inj; rw [h0]; rfl
      subst this
      rw [muls_zero_right]; simp
    · rw [if_neg h0, and8_1, times_eq, shr8]
      have hs : (b >>> 1).toNat < 2 ^ n := by
        simp [BitVec.toNat_ushiftRight, Nat.shiftRight_eq_div_pow]
        rw [Nat.pow_succ] at hb; omega
      rw [muls_front]
      cases hc : b.getLsbD 0
      · rw [if_neg (by simp)]
        simp only [Option.bind_some]
        rw [ih k _ _ _ hs (by omega)]
        simp [sel]
      · rw [if_pos (by simp)]
        simp only [Option.bind_some]
        rw [xor8, ih k _ _ _ hs (by omega)]
        simp [sel, BitVec.xor_assoc]
theorem mul_eq (k : Nat) (hk : 8 < k) (a b : BitVec 8) : field_Mul.f k (B a) (B b) = some (B (mul P8 a b)) := by
  unfold field_Mul.f
  rw [show (0 : Int) = B 0#8 from rfl, mul_l0 8 k a b _ b.isLt hk]
  simp [mul]

theorem pow_l0 (n : Nat) (hn : n ≤ 62) : ∀ (k : Nat) (a o : BitVec 8) (e : Nat), e < 2 ^ n → n + 9 < k → field_Pow.l0 k (B a) (e : Int) (B o) = some (B (mul P8 o (pw a e))) := by
  induction n with
  | zero =>
    intro k a o e he hk
    obtain ⟨k, rfl⟩ : ∃ m, k = m + 1 := ⟨k - 1, by omega⟩
    obtain rfl : e = 0 := by omega
    simp only [field_Pow.l0]
    rw [if_neg (by omega)]; simp [pw, mul_one]
  | succ n ih =>
    intro k a o e he hk
    obtain ⟨k, rfl⟩ : ∃ m, k = m + 1 := ⟨k - 1, by omega⟩
    simp only [field_Pow.l0]
    by_cases h0 : e = 0
    · subst h0
      rw [if_neg (by omega)]; simp [pw, mul_one]
    · rw [if_pos (by omega)]
      have ea : Go.bits .and .i64 (e : Int) 1 = (e : Int) % 2 ^ 1 := bits_mask .i64 62 (by decide) (fun n h0 h1 => by rw [IntKind.wrap_i64]; omega) 1 (by decide) _ (by omega) (by have : 2 ^ (n + 1) ≤ 2 ^ 62 := Nat.pow_le_pow_right (by decide) (by omega); omega)
      rw [ea]
      have hd : ((e : Int) / 2) = ((e / 2 : Nat) : Int) := by omega
      rw [hd]
      have hs : e / 2 < 2 ^ n := by rw [Nat.pow_succ] at he; omega
      have hsq : mul P8 a a = mul P8 a a := rfl
      by_cases h1 : e % 2 = 1
      · rw [if_pos (by omega), mul_eq k (by omega), mul_eq k (by omega)]
        simp only [Option.bind_some]
        rw [ih (by omega) k _ _ _ hs (by omega), pw_sq]
        have : e = 1 + 2 * (e / 2) := by omega
        conv => rhs; rw [this, pw_add, pw_one]
        rw [mul_assoc]
      · rw [if_neg (by omega), mul_eq k (by omega)]
        simp only [Option.bind_some]
        rw [ih (by omega) k _ _ _ hs (by omega), pw_sq]
        have : e = 2 * (e / 2) := by omega
        conv => rhs; rw [this]
theorem pow_eq (k : Nat) (hk : 30 < k) (a : BitVec 8) (e : Nat) (h0 : 0 < e) (h1 : e ≤ 255) : field_Pow.f k (B a) (e : Int) = some (B (pw a e)) := by
  unfold field_Pow.f
  rw [if_neg (by omega), if_neg (by omega)]
  obtain ⟨k, rfl⟩ : ∃ m, k = m + 1 := ⟨k - 1, by omega⟩
  simp only [field_Pow.j0]
  rw [show (1 : Int) = B 1#8 from rfl, pow_l0 8 (by decide) k a _ e (by omega) (by omega), one_mul]
theorem inv_eq (k : Nat) (hk : 30 < k) (a : BitVec 8) : field_Inv.f k (B a) = some (B (pw a 254)) := by
  unfold field_Inv.f
  have := pow_eq k hk a 254 (by decide) (by decide)
  rw [show ((254 : Nat) : Int) = 254 from rfl] at this
  rw [this]; rfl
theorem awake_eq (k : Nat) (hk : 30 < k) : nepenthelaw05_awake.f k = some true := by
  unfold nepenthelaw05_awake.f
  rw [show (87 : Int) = B 87#8 from rfl, show (131 : Int) = B 131#8 from rfl, show (83 : Int) = B 83#8 from rfl, mul_eq k (by omega), inv_eq k hk]
  have e1 : mul P8 87#8 131#8 = 193#8 := by decide +kernel
  have e2 : pw 83#8 254 = 202#8 := by decide +kernel
  rw [e1, e2]
  rfl

theorem bit_l0 (d : Nat) : ∀ (k : Nat) (m : Nat) (i c : Nat), m < 9223372036854775808 → i ≤ 100 → c + d = i → d < k → nepentheref05_bit.l0 k (m : Int) (i : Int) (c : Int) = some (((m / 2 ^ d) % 2 : Nat) : Int) := by
  induction d with
  | zero =>
    intro k m i c hm hi hc hk
    obtain ⟨k, rfl⟩ : ∃ m, k = m + 1 := ⟨k - 1, by omega⟩
    simp only [nepentheref05_bit.l0]
    rw [if_neg (by omega)]
    congr 1
    rw [Nat.pow_zero, Nat.div_one, Int.tmod_eq_emod_of_nonneg (by omega)]
    omega
  | succ d ih =>
    intro k m i c hm hi hc hk
    obtain ⟨k, rfl⟩ : ∃ m, k = m + 1 := ⟨k - 1, by omega⟩
    simp only [nepentheref05_bit.l0]
    rw [if_pos (by omega), Int.tdiv_eq_ediv_of_nonneg (by omega), w64 _ (by omega) (by omega), w64 _ (by omega) (by omega)]
    have e1 : ((m : Int) / 2) = ((m / 2 : Nat) : Int) := by omega
    have e2 : ((c : Int) + 1) = ((c + 1 : Nat) : Int) := by omega
    rw [e1, e2, ih k _ i _ (by omega) hi (by omega) (by omega), Nat.div_div_eq_div_mul, Nat.pow_succ, Nat.mul_comm]
theorem bit_eq (k m i : Nat) (hm : m < 9223372036854775808) (hi : i ≤ 100) (hk : i < k) : nepentheref05_bit.f k (m : Int) (i : Int) = some (((m / 2 ^ i) % 2 : Nat) : Int) := by
  unfold nepentheref05_bit.f
  exact bit_l0 i k m i 0 hm hi (by omega) hk
theorem power_l0 (d : Nat) : ∀ (k p i c : Nat), p * 2 ^ d < 9223372036854775808 → i ≤ 60 → c + d = i → d < k → nepentheref05_power.l0 k (i : Int) (p : Int) (c : Int) = some ((p * 2 ^ d : Nat) : Int) := by
  induction d with
  | zero =>
    intro k p i c hp hi hc hk
    obtain ⟨k, rfl⟩ : ∃ m, k = m + 1 := ⟨k - 1, by omega⟩
    simp only [nepentheref05_power.l0]
    rw [if_neg (by omega)]
    simp
  | succ d ih =>
    intro k p i c hp hi hc hk
    obtain ⟨k, rfl⟩ : ∃ m, k = m + 1 := ⟨k - 1, by omega⟩
    simp only [nepentheref05_power.l0]
    have hpp : p * 2 * 2 ^ d < 9223372036854775808 := by rw [Nat.pow_succ] at hp; rw [Nat.mul_assoc, Nat.mul_comm 2]; exact hp
    have hp2 : p * 2 < 9223372036854775808 := Nat.lt_of_le_of_lt (Nat.le_mul_of_pos_right _ (Nat.two_pow_pos d)) hpp
    rw [if_pos (by omega), w64 _ (by omega) (by omega), w64 _ (by omega) (by omega)]
    have e1 : ((p : Int) * 2) = ((p * 2 : Nat) : Int) := by omega
    have e2 : ((c : Int) + 1) = ((c + 1 : Nat) : Int) := by omega
    rw [e1, e2, ih k _ i _ hpp hi (by omega) (by omega)]
    congr 2
    rw [Nat.pow_succ, Nat.mul_assoc, Nat.mul_comm 2]
theorem power_eq (k i : Nat) (hi : i ≤ 60) (hk : i < k) : nepentheref05_power.f k (i : Int) = some ((2 ^ i : Nat) : Int) := by
  unfold nepentheref05_power.f
  have h2 : 1 * 2 ^ i < 9223372036854775808 := by
    rw [Nat.one_mul]
    exact Nat.lt_of_le_of_lt (Nat.pow_le_pow_right (by decide) hi) (by decide)
  have := power_l0 i k 1 i 0 h2 hi (by omega) hk
  rw [Nat.one_mul] at this
  exact this
def B16 (v : BitVec 16) : Int := (v.toNat : Int)
theorem xor16 (a b : BitVec 16) : Go.bits .xor .i64 (B16 a) (B16 b) = B16 (a ^^^ b) := by
  have h := (a ^^^ b).isLt
  have ha := a.isLt
  have hb := b.isLt
  have e : Go.bits .xor .i64 (B16 a) (B16 b) = IntKind.i64.wrap (((BitVec.ofInt 64 (a.toNat : Int)) ^^^ (BitVec.ofInt 64 (b.toNat : Int))).toNat : Int) := rfl
  have e2 : ((BitVec.ofInt 64 (a.toNat : Int)) ^^^ (BitVec.ofInt 64 (b.toNat : Int))).toNat = (a ^^^ b).toNat := by
    rw [BitVec.ofInt_natCast, BitVec.ofInt_natCast, BitVec.toNat_xor, BitVec.toNat_xor, BitVec.toNat_ofNat, BitVec.toNat_ofNat, Nat.mod_eq_of_lt (by omega), Nat.mod_eq_of_lt (by omega)]
  rw [e, e2, IntKind.wrap_i64]
  unfold B16; omega
theorem bit16 (k : Nat) (p : BitVec 16) (i : Nat) (hi : i ≤ 100) (hk : i < k) : nepentheref05_bit.f k (B16 p) (i : Int) = some (if p.getLsbD i then 1 else 0) := by
  have hp := p.isLt
  unfold B16
  rw [bit_eq k _ i (by omega) hi hk]
  congr 1
  rw [BitVec.getLsbD, Nat.testBit_eq_decide_div_mod_eq]
  by_cases h : p.toNat / 2 ^ i % 2 = 1
  · simp [h]
  · have : p.toNat / 2 ^ i % 2 = 0 := by omega
    simp [this]
theorem bit8 (k : Nat) (p : BitVec 8) (i : Nat) (hi : i ≤ 100) (hk : i < k) : nepentheref05_bit.f k (B p) (i : Int) = some (if p.getLsbD i then 1 else 0) := by
  have hp := p.isLt
  unfold B
  rw [bit_eq k _ i (by omega) hi hk]
  congr 1
  rw [BitVec.getLsbD, Nat.testBit_eq_decide_div_mod_eq]
  by_cases h : p.toNat / 2 ^ i % 2 = 1
  · simp [h]
  · have : p.toNat / 2 ^ i % 2 = 0 := by omega
    simp [this]
theorem shl16 (a : BitVec 8) (i : Nat) (hi : i ≤ 8) : (B a * ((2 ^ i : Nat) : Int)) = B16 ((a.setWidth 16) <<< i) := by
  have ha := a.isLt
  unfold B B16
  rw [BitVec.toNat_shiftLeft, BitVec.toNat_setWidth, Nat.shiftLeft_eq]
  have h1 : 2 ^ i ≤ 2 ^ 8 := Nat.pow_le_pow_right (by decide) hi
  have h2 : a.toNat * 2 ^ i < 2 ^ 16 := by
    have : a.toNat * 2 ^ i ≤ 255 * 2 ^ 8 := Nat.mul_le_mul (by omega) h1
    omega
  rw [Nat.mod_eq_of_lt (a := a.toNat) (by omega), Nat.mod_eq_of_lt h2]
  simp
theorem shl283 (m : Nat) (hm : m < 7) : wrap64 (283 * ((2 ^ m : Nat) : Int)) = B16 (283#16 <<< m) := by
  have : ∀ m : Fin 7, wrap64 (283 * ((2 ^ m.val : Nat) : Int)) = B16 (283#16 <<< m.val) := by decide +kernel
  exact this ⟨m, hm⟩
theorem red_l1 (m : Nat) : ∀ (k : Nat) (p : BitVec 16), m ≤ 7 → m + 16 < k → nepentheref05_Mul.l1 k (B16 p) ((7 + m : Nat) : Int) = some (B16 (redV m p) % 256) := by
  induction m with
  | zero =>
    intro k p hm hk
    obtain ⟨k, rfl⟩ : ∃ m, k = m + 1 := ⟨k - 1, by omega⟩
    simp only [nepentheref05_Mul.l1]
    rw [if_neg (by omega)]; rfl
  | succ m ih =>
    intro k p hm hk
    obtain ⟨k, rfl⟩ : ∃ m, k = m + 1 := ⟨k - 1, by omega⟩
    simp only [nepentheref05_Mul.l1]
    rw [if_pos (by omega), bit16 k p _ (by omega) (by omega)]
    simp only [Option.bind_some]
    rw [w64 (((7 + (m + 1) : Nat) : Int) - 8) (by omega) (by omega), w64 (((7 + (m + 1) : Nat) : Int) - 1) (by omega) (by omega)]
    have e1 : (((7 + (m + 1) : Nat) : Int) - 8) = (m : Int) := by omega
    have e2 : (((7 + (m + 1) : Nat) : Int) - 1) = ((7 + m : Nat) : Int) := by omega
    rw [e1, e2, power_eq k m (by omega) (by omega)]
    simp only [Option.bind_some]
    rw [shl283 m (by omega), xor16, redV, show 7 + (m + 1) = 8 + m from by omega]
    cases hc : p.getLsbD (8 + m)
    · rw [if_neg (by simp), ih k _ (by omega) (by omega)]; simp [sel]
    · rw [if_pos (by simp), ih k _ (by omega) (by omega)]; simp [sel]
theorem mul_ref_l0 (d : Nat) : ∀ (k : Nat) (a b : BitVec 8) (i : Nat), i + d = 8 → d + 40 < k → nepentheref05_Mul.l0 k (B a) (B b) (B16 (prodV i a b)) (i : Int) = some (B16 (redV 7 (prodV 8 a b)) % 256) := by
  induction d with
  | zero =>
    intro k a b i hi hk
    obtain rfl : i = 8 := by omega
    obtain ⟨k, rfl⟩ : ∃ m, k = m + 1 := ⟨k - 1, by omega⟩
    simp only [nepentheref05_Mul.l0]
    rw [if_neg (by omega)]
    exact red_l1 7 k _ (by omega) (by omega)
  | succ d ih =>
    intro k a b i hi hk
    obtain ⟨k, rfl⟩ : ∃ m, k = m + 1 := ⟨k - 1, by omega⟩
    simp only [nepentheref05_Mul.l0]
    have hb0 := B_lo b
    have hb1 := B_hi b
    have ha0 := B_lo a
    have ha1 := B_hi a
    rw [if_pos (by omega), w64 (B b) (by omega) (by omega), bit8 k b i (by omega) (by omega)]
    simp only [Option.bind_some]
    rw [w64 ((i : Int) + 1) (by omega) (by omega), w64 (B a) (by omega) (by omega), power_eq k i (by omega) (by omega)]
    simp only [Option.bind_some]
    rw [shl16 a i (by omega)]
    have h16 : wrap64 (B16 ((a.setWidth 16) <<< i)) = B16 ((a.setWidth 16) <<< i) := by
      have := ((a.setWidth 16) <<< i).isLt
      exact w64 _ (by unfold B16; omega) (by unfold B16; omega)
    rw [h16, xor16, show ((i : Int) + 1) = ((i + 1 : Nat) : Int) from by omega]
    have := ih k a b (i + 1) (by omega) (by omega)
    rw [prodV] at this
    cases hc : b.getLsbD i
    · rw [hc] at this
      rw [if_neg (by simp)]
      simpa [sel] using this
    · rw [hc] at this
      rw [if_pos (by simp)]
      simpa [sel] using this
theorem mul_ref_eq (k : Nat) (hk : 60 < k) (a b : BitVec 8) : nepentheref05_Mul.f k (B a) (B b) = some (B (mul P8 a b)) := by
  unfold nepentheref05_Mul.f
  have h := mul_ref_l0 8 k a b 0 (by omega) (by omega)
  have e : B16 (redV 7 (prodV 8 a b)) % (256 : Int) = B (mul P8 a b) := by
    rw [← red_all]
    unfold B16 B
    rw [BitVec.toNat_setWidth]; omega
  rw [e] at h
  exact h

theorem FieldProducts : nepenthelaw05_FieldProducts.Pure := by
  intro a0 a1 h0 h1
  obtain ⟨a, rfl⟩ := B_of a0 h0
  obtain ⟨b, rfl⟩ := B_of a1 h1
  refine ⟨200, ?_⟩
  unfold nepenthelaw05_FieldProducts.f
  rw [mul_eq 200 (by decide), mul_ref_eq 200 (by decide), times_eq, show (2 : Int) = B 2#8 from rfl, mul_ref_eq 200 (by decide), awake_eq 200 (by decide)]
  have : mul P8 a 2#8 = dbl P8 a := by
    rw [show (2#8 : BitVec 8) = dbl P8 1#8 from by decide, mul_dbl_right, mul_one]
  rw [this]
  simp

end Go.Proofs.Ythmahaoadoeoaaa.Pure
