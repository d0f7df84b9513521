/- What the reference's product of chapter 8 answers, said of words of 128 bits. -/
import Derived.Test.YthmahaoadoeoaaaQx
import Derived.Test.YthmahaoadoeoaaaTwR
namespace Go.Proofs.Ythmahaoadoeoaaa.Tw
open Go.RowKit Go.Proofs.Ythmahaoadoeoaaa.Core Go.Proofs.Ythmahaoadoeoaaa.Q Go.Proofs.YthmahaoadoeoaaaW.PrintWords Go.Proofs.YthmahaoadoeoaaaW.PrintLast Go.Proofs.Ythmahaoadoeoaaa.Own
theorem bts_put {d : Nat} (n : Nat) (q : BitVec d) (i : Nat) (c : Bool) (h : i < n) (hd : n ≤ d) : (bts n q).set i (if q.getLsbD i ^^ c then 1 else 0) = bts n (q ^^^ sel c (BitVec.twoPow d i)) := by
  refine bts_ext (by rw [List.length_set, bts_length]) fun j hj => ?_
  have hs : (sel c (BitVec.twoPow d i)).getLsbD j = (c && decide (i = j)) := by
    cases c
    · simp [sel]
    · simp only [sel, if_true, BitVec.getLsbD_twoPow, Bool.true_and]
      have e1 : decide (i < d) = true := by simp; omega
      rw [e1]; rfl
  rw [BitVec.getLsbD_xor, hs]
  simp only [List.getD_eq_getElem?_getD]
  by_cases e : i = j
  · subst e
    rw [List.getElem?_set_self (by rw [bts_length]; exact h)]
    simp
  · rw [List.getElem?_set_ne e]
    have := bts_get n q j hj
    simp only [List.getD_eq_getElem?_getD] at this
    rw [this]
    simp [e]
def lowp (b : BitVec 128) : Nat → BitVec 256
  | 0 => 0#256
  | j + 1 => lowp b j ^^^ sel (b.getLsbD j) (BitVec.twoPow 256 j)
theorem lowp_bit (b : BitVec 128) (j : Nat) (hj : j ≤ 128) (t : Nat) : (lowp b j).getLsbD t = (decide (t < j) && b.getLsbD t) := by
  induction j with
  | zero => simp [lowp]
  | succ j ih =>
    rw [lowp, BitVec.getLsbD_xor, ih (by omega)]
    have hs : (sel (b.getLsbD j) (BitVec.twoPow 256 j)).getLsbD t = (b.getLsbD j && decide (j = t)) := by
      cases b.getLsbD j
      · simp [sel]
      · simp only [sel, if_true, BitVec.getLsbD_twoPow, Bool.true_and]
        have e1 : decide (j < 256) = true := by simp; omega
        rw [e1]; rfl
    rw [hs]
    by_cases h : j = t
    · subst h; simp
    · have e1 : decide (t < j + 1) = decide (t < j) := by simp; omega
      rw [e1]; simp [h]
theorem lowp_all (b : BitVec 128) : lowp b 128 = b.setWidth 256 := by
  apply BitVec.eq_of_getLsbD_eq
  intro t ht
  rw [lowp_bit b 128 (Nat.le_refl _), BitVec.getLsbD_setWidth]
  by_cases h : t < 128
  · simp [h, ht]
  · rw [BitVec.getLsbD_of_ge b t (by omega)]; simp
theorem twoPow_shl (t m : Nat) (h : t + m < 256) : (BitVec.twoPow 256 t) <<< m = BitVec.twoPow 256 (m + t) := by
  apply BitVec.eq_of_getLsbD_eq
  intro j hj
  rw [BitVec.getLsbD_shiftLeft, BitVec.getLsbD_twoPow, BitVec.getLsbD_twoPow]
  have e1 : decide (j < 256) = true := by simp; omega
  have e2 : decide (t < 256) = true := by simp; omega
  have e3 : decide (m + t < 256) = true := by simp; omega
  rw [e1, e2, e3]
  by_cases h1 : j < m
  · have e4 : decide (m + t = j) = false := by simp; omega
    have e5 : decide (j < m) = true := by simp; omega
    rw [e4, e5]; rfl
  · have e4 : decide (t = j - m) = decide (m + t = j) := by simp; omega
    have e5 : decide (j < m) = false := by simp; omega
    rw [e4, e5]; simp
theorem lowp_shl (b : BitVec 128) (j i : Nat) (h : i + j < 256) : (lowp b (j + 1)) <<< i = ((lowp b j) <<< i) ^^^ sel (b.getLsbD j) (BitVec.twoPow 256 (i + j)) := by
  rw [lowp, BitVec.shiftLeft_xor_distrib]
  congr 1
  cases b.getLsbD j
  · simp [sel]
  · simp only [sel, if_true]; exact twoPow_shl j i (by omega)
theorem mul_l0 (e : Nat) : ∀ (k : Nat) (a b : BitVec 128) (i : Nat), i + e = 128 → 130 * e + 201 < k → nepentheref08_Mul.l0 k (bts 128 a) (bts 128 b) (bts 256 (prods (d := 256) i a b)) (i : Int) = some (bys (mul P128 a b)) := by
  induction e with
  | zero =>
    intro k a b i hi hk
    obtain ⟨k, rfl⟩ : ∃ m, k = m + 1 := ⟨k - 1, by omega⟩
    obtain rfl : i = 128 := by omega
    simp only [nepentheref08_Mul.l0]
    rw [if_neg (by omega), show (256 : Nat) = 128 + 128 from rfl, left_eq k 128 (by omega) (by omega) (by omega)]
    simp only [Option.bind_some]
    have e2 : bts 128 (red P128 128 (prods (d := 256) 128 a b)) = bts 128 (mul P128 a b) := by
      rw [← red_prods (d := 256) (by decide) P128 a b (by decide)]
      refine bts_congr fun i hi => ?_
      rw [BitVec.getLsbD_setWidth]; simp [hi]
    have e3 : nepentheref08_told.f k (bts 128 (red P128 128 (prods (d := 256) 128 a b))) = some (bys (mul P128 a b)) := by
      rw [e2]; exact told_eq k (by omega) _
    simp only [Nat.reduceAdd]
    rw [e3]; rfl
  | succ e ih =>
    intro k a b i hi hk
    obtain ⟨k, rfl⟩ : ∃ m, k = m + 1 := ⟨k - 1, by omega⟩
    have inner : ∀ (d k j : Nat), j + d = 128 → d + 1 + 130 * e + 201 < k → nepentheref08_Mul.l1 k (bts 128 a) (bts 128 b) (bts 256 (prods (d := 256) i a b ^^^ sel (a.getLsbD i) ((lowp b j) <<< i))) (i : Int) (j : Int) = some (bys (mul P128 a b)) := by
      intro d
      induction d with
      | zero =>
        intro k j hj hk
        obtain ⟨k, rfl⟩ : ∃ m, k = m + 1 := ⟨k - 1, by omega⟩
        obtain rfl : j = 128 := by omega
        simp only [nepentheref08_Mul.l1]
        rw [if_neg (by omega), w64 _ (by omega) (by omega), show ((i : Int) + 1) = ((i + 1 : Nat) : Int) from by omega, lowp_all]
        exact ih k a b (i + 1) (by omega) (by omega)
      | succ d ihd =>
        intro k j hj hk
        obtain ⟨k, rfl⟩ : ∃ m, k = m + 1 := ⟨k - 1, by omega⟩
        have step := ihd k (j + 1) (by omega) (by omega)
        obtain ⟨q, hq⟩ : ∃ q, q = prods (d := 256) i a b ^^^ sel (a.getLsbD i) ((lowp b j) <<< i) := ⟨_, rfl⟩
        have hn : prods (d := 256) i a b ^^^ sel (a.getLsbD i) ((lowp b (j + 1)) <<< i) = q ^^^ sel (a.getLsbD i && b.getLsbD j) (BitVec.twoPow 256 (i + j)) := by
          rw [hq, lowp_shl b j i (by omega), sel_xor]
          have : sel (a.getLsbD i) (sel (b.getLsbD j) (BitVec.twoPow 256 (i + j))) = sel (a.getLsbD i && b.getLsbD j) (BitVec.twoPow 256 (i + j)) := by
            cases a.getLsbD i <;> cases b.getLsbD j <;> rfl
          rw [this, BitVec.xor_assoc]
        rw [hn] at step
        rw [← hq]
        simp only [nepentheref08_Mul.l1]
        have ea : ((i : Int) + (j : Int)) = ((i + j : Nat) : Int) := by omega
        rw [ea, w64 ((i + j : Nat) : Int) (by omega) (by omega), if_pos (by omega), if_pos (by omega), if_pos (by rw [bts_length]; omega), if_pos (by omega), if_pos (by rw [bts_length]; omega), if_pos (by omega), if_pos (by rw [bts_length]; omega)]
        rw [rd_nat, rd_nat, rd_nat, bts_get _ _ _ (by omega), bts_get _ _ _ (by omega), bts_get _ _ _ (by omega)]
        have ev : Int.tmod (wrap64 ((if q.getLsbD (i + j) = true then (1 : Int) else 0) + wrap64 ((if a.getLsbD i = true then (1 : Int) else 0) * (if b.getLsbD j = true then (1 : Int) else 0)))) 2 = (if (q.getLsbD (i + j) ^^ (a.getLsbD i && b.getLsbD j)) then (1 : Int) else 0) := by
          cases q.getLsbD (i + j) <;> cases a.getLsbD i <;> cases b.getLsbD j <;> decide +kernel
        rw [ev, Int.toNat_natCast, bts_put _ _ _ _ (by omega) (by omega), w64 ((j : Int) + 1) (by omega) (by omega), show ((j : Int) + 1) = ((j + 1 : Nat) : Int) from by omega]
        exact step
    simp only [nepentheref08_Mul.l0]
    rw [if_pos (by omega)]
    have := inner 128 k 0 (by omega) (by omega)
    have e0 : prods (d := 256) i a b ^^^ sel (a.getLsbD i) ((lowp b 0) <<< i) = prods (d := 256) i a b := by
      cases a.getLsbD i <;> simp [sel, lowp]
    rw [e0] at this
    exact this
theorem mul_ref (k : Nat) (hk : 17000 < k) (a b : BitVec 128) : nepentheref08_Mul.f k (bys a) (bys b) = some (bys (mul P128 a b)) := by
  unfold nepentheref08_Mul.f
  rw [bits_eq k (by omega), bits_eq k (by omega)]
  simp only [Option.bind_some]
  rw [if_pos (by decide)]
  have h := mul_l0 128 k a b 0 (by omega) (by omega)
  have e : bts 256 (prods (d := 256) 0 a b) = List.replicate 256 0 := by
    symm
    refine bts_ext (List.length_replicate) fun i hi => ?_
    rw [List.getD_eq_getElem?_getD, List.getElem?_replicate, if_pos hi]
    simp [prods]
  rw [e] at h
  exact h
theorem mul_own (a b : BitVec 128) : twice_Mul.f (bys a) (bys b) = some (bys (mul P128 a b), 0) := by
  unfold twice_Mul.f
  rw [if_pos ⟨bys_length a, bys_length b⟩, mul_bys]
end Go.Proofs.Ythmahaoadoeoaaa.Tw
