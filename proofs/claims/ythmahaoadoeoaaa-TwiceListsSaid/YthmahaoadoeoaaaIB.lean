/- Bytes as numbers and as words of eight bits: what Go's operations on uint8 do. Plain laws, no program. -/
import Derived.Laws.BitsLemmas
import Derived.RowKit
namespace Go.Proofs.Ythmahaoadoeoaaa.Core
open Go Go.RowKit
def B (v : BitVec 8) : Int := (v.toNat : Int)
theorem B_lo (v : BitVec 8) : 0 ≤ B v := Int.natCast_nonneg _
theorem B_hi (v : BitVec 8) : B v < 256 := by have := v.isLt; unfold B; omega
theorem B_inj {a b : BitVec 8} (h : B a = B b) : a = b := BitVec.eq_of_toNat_eq (by unfold B at h; omega)
theorem B_of (x : Int) (h : (Lit.int .u8 x).wf = true) : ∃ v, x = B v := by
  simp [Lit.wf, IntKind.min, IntKind.max, IntKind.signed, IntKind.bits] at h
  obtain ⟨n, rfl⟩ := Int.eq_ofNat_of_zero_le h.1
  exact ⟨BitVec.ofNat 8 n, by unfold B; simp; omega⟩
theorem B_wf (v : BitVec 8) : (Lit.int .u8 (B v)).wf = true := by
  have := B_lo v
  have := B_hi v
  simp [Lit.wf, IntKind.min, IntKind.max, IntKind.signed, IntKind.bits]; omega
theorem ofInt8 (a : BitVec 8) : BitVec.ofInt 8 (a.toNat : Int) = a := by
  rw [BitVec.ofInt_natCast, BitVec.ofNat_toNat, BitVec.setWidth_eq]
theorem wrap8 (v : BitVec 8) : IntKind.u8.wrap (v.toNat : Int) = B v := by
  have := v.isLt
  rw [IntKind.wrap_u8]; unfold B; omega
theorem xor8 (a b : BitVec 8) : Go.bits .xor .u8 (B a) (B b) = B (a ^^^ b) := by
  have e : Go.bits .xor .u8 (B a) (B b) = IntKind.u8.wrap (((BitVec.ofInt 8 (a.toNat : Int)) ^^^ (BitVec.ofInt 8 (b.toNat : Int))).toNat : Int) := rfl
  rw [e, ofInt8, ofInt8, wrap8]
theorem or8 (a b : BitVec 8) : Go.bits .or .u8 (B a) (B b) = B (a ||| b) := by
  have e : Go.bits .or .u8 (B a) (B b) = IntKind.u8.wrap (((BitVec.ofInt 8 (a.toNat : Int)) ||| (BitVec.ofInt 8 (b.toNat : Int))).toNat : Int) := rfl
  rw [e, ofInt8, ofInt8, wrap8]
theorem and8 (a b : BitVec 8) : Go.bits .and .u8 (B a) (B b) = B (a &&& b) := by
  have e : Go.bits .and .u8 (B a) (B b) = IntKind.u8.wrap (((BitVec.ofInt 8 (a.toNat : Int)) &&& (BitVec.ofInt 8 (b.toNat : Int))).toNat : Int) := rfl
  rw [e, ofInt8, ofInt8, wrap8]
theorem and8_1 (a : BitVec 8) : Go.bits .and .u8 (B a) 1 = if a.getLsbD 0 then 1 else 0 := by
  rw [show (1 : Int) = B 1#8 from rfl, and8]
  have : a &&& 1#8 = if a.getLsbD 0 then 1#8 else 0#8 := by
    apply BitVec.eq_of_getLsbD_eq
    intro i hi
    rw [BitVec.getLsbD_and, BitVec.getLsbD_one]
    by_cases h0 : i = 0
    · subst h0; cases a.getLsbD 0 <;> simp
    · cases a.getLsbD 0 <;> simp [h0, BitVec.getLsbD_one]
  rw [this]
  cases a.getLsbD 0 <;> rfl
theorem shl8 (a : BitVec 8) : (B a * (2 : Int)) % (256 : Int) = B (a <<< 1) := by
  unfold B; simp [BitVec.toNat_shiftLeft, Nat.shiftLeft_eq]
theorem shr8 (a : BitVec 8) (n : Nat) : B a / ((2 : Int) ^ n) = B (a >>> n) := by
  unfold B; rw [BitVec.toNat_ushiftRight, Nat.shiftRight_eq_div_pow]; simp
theorem shr8_7 (a : BitVec 8) : B a / (128 : Int) = B (a >>> 7) := by
  rw [← shr8]; rfl
theorem mul8 (a b : BitVec 8) : (B a * B b) % (256 : Int) = B (a * b) := by
  unfold B; rw [BitVec.toNat_mul]; simp
theorem w64 (x : Int) (h0 : -9223372036854775808 ≤ x) (h1 : x < 9223372036854775808) : wrap64 x = x := by unfold wrap64; omega
end Go.Proofs.Ythmahaoadoeoaaa.Core
