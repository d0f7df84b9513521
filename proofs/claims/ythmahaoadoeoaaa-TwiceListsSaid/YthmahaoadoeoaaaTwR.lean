/- What the references' functions of chapter 8 answer, said of words of 128 bits. -/
import Derived.Test.YthmahaoadoeoaaaTwV
import Derived.Test.YthmahaoadoeoaaaQx
namespace Go.Proofs.Ythmahaoadoeoaaa.Tw
open Go.RowKit Go.Proofs.Ythmahaoadoeoaaa.Core Go.Proofs.Ythmahaoadoeoaaa.Q Go.Proofs.YthmahaoadoeoaaaW.PrintWords Go.Proofs.YthmahaoadoeoaaaW.PrintLast Go.Proofs.Ythmahaoadoeoaaa.Own
theorem rd_nat (l : List Int) (i : Nat) : rd l (i : Int) = l.getD i 0 := by simp [rd]
theorem same_l0 (d : Nat) : ∀ (k : Nat) (l l' : List Int) (i : Nat), l.length = l'.length → l.length < 4611686018427387904 → i + d = l.length → d < k → (∀ j, j < i → l.getD j 0 = l'.getD j 0) → nepentheref01_SameBytes.l0 k l l' (i : Int) = some (decide (l = l')) := by
  induction d with
  | zero =>
    intro k l l' i hl hb hi hk he
    obtain ⟨k, rfl⟩ : ∃ m, k = m + 1 := ⟨k - 1, by omega⟩
    simp only [nepentheref01_SameBytes.l0]
    rw [if_neg (by omega)]
    have : l = l' := by
      apply List.ext_getElem hl
      intro j h1 h2
      have := he j (by omega)
      simpa [h1, h2] using this
    simp [this]
  | succ d ih =>
    intro k l l' i hl hb hi hk he
    obtain ⟨k, rfl⟩ : ∃ m, k = m + 1 := ⟨k - 1, by omega⟩
    simp only [nepentheref01_SameBytes.l0]
    rw [if_pos (by omega), if_pos (by omega), if_pos (by omega), rd_nat, rd_nat]
    by_cases h : l.getD i 0 = l'.getD i 0
    · rw [if_pos h, w64 _ (by omega) (by omega), show ((i : Int) + 1) = ((i + 1 : Nat) : Int) from by omega]
      refine ih k l l' (i + 1) hl hb (by omega) (by omega) fun j hj => ?_
      by_cases hji : j = i
      · rw [hji]; exact h
      · exact he j (by omega)
    · rw [if_neg h]
      have : l ≠ l' := fun e => h (by rw [e])
      simp [this]
theorem same_eq (k : Nat) (l l' : List Int) (hb : l.length < 4611686018427387904) (hk : l.length < k) : nepentheref01_SameBytes.f k l l' = some (decide (l = l')) := by
  unfold nepentheref01_SameBytes.f
  by_cases h : l.length = l'.length
  · rw [if_pos (by omega)]
    exact same_l0 l.length k l l' 0 h hb (by omega) hk (fun j hj => by omega)
  · rw [if_neg (by omega)]
    have : l ≠ l' := fun e => h (by rw [e])
    simp [this]
/-! ### bits -/
theorem byte_bit (v : BitVec 128) (i j : Nat) (hj : j < 8) : (((byteB v i).toNat / 2 ^ j : Nat) : Int).tmod 2 = if v.getLsbD (8 * i + j) then 1 else 0 := by
  rw [← byteB_bit v i j hj, BitVec.getLsbD, Nat.testBit_eq_decide_div_mod_eq]
  generalize (byteB v i).toNat / 2 ^ j = q
  rw [Int.tmod_eq_emod_of_nonneg (by omega)]
  by_cases h : q % 2 = 1
  · simp [h]; omega
  · have : q % 2 = 0 := by omega
    simp [this]; omega
theorem bits_l0 (e : Nat) : ∀ (k : Nat) (v : BitVec 128) (i : Nat), i + e = 16 → 10 * e < k → nepentheref08_bits.l0 k (bys v) (bts (8 * i) v) (i : Int) = some (bts 128 v) := by
  induction e with
  | zero =>
    intro k v i hi hk
    obtain ⟨k, rfl⟩ : ∃ m, k = m + 1 := ⟨k - 1, by omega⟩
    obtain rfl : i = 16 := by omega
    simp only [nepentheref08_bits.l0]
    rw [if_neg (by omega)]
  | succ e ih =>
    intro k v i hi hk
    obtain ⟨k, rfl⟩ : ∃ m, k = m + 1 := ⟨k - 1, by omega⟩
    have inner : ∀ (d k j : Nat), j + d = 8 → d + 1 + 10 * e < k → nepentheref08_bits.l1 k (bys v) (bts (8 * i + j) v) (i : Int) (((byteB v i).toNat / 2 ^ j : Nat) : Int) (j : Int) = some (bts 128 v) := by
      intro d
      induction d with
      | zero =>
        intro k j hj hk
        obtain ⟨k, rfl⟩ : ∃ m, k = m + 1 := ⟨k - 1, by omega⟩
        obtain rfl : j = 8 := by omega
        simp only [nepentheref08_bits.l1]
        rw [if_neg (by omega), w64 _ (by omega) (by omega), show ((i : Int) + 1) = ((i + 1 : Nat) : Int) from by omega, show 8 * i + 8 = 8 * (i + 1) from by omega]
        exact ih k v (i + 1) (by omega) (by omega)
      | succ d ihd =>
        intro k j hj hk
        obtain ⟨k, rfl⟩ : ∃ m, k = m + 1 := ⟨k - 1, by omega⟩
        have hb := (byteB v i).isLt
        have hq : (byteB v i).toNat / 2 ^ j < 256 := Nat.lt_of_le_of_lt (Nat.div_le_self _ _) hb
        have hbit := byte_bit v i j (by omega)
        have step := ihd k (j + 1) (by omega) (by omega)
        rw [Nat.pow_succ, ← Nat.div_div_eq_div_mul] at step
        generalize (byteB v i).toNat / 2 ^ j = q at hq hbit step
        simp only [nepentheref08_bits.l1]
        rw [if_pos (by omega), if_pos (by rw [bts_length]; omega), hbit, ← bts_succ, Int.tdiv_eq_ediv_of_nonneg (by omega), w64 _ (by omega) (by omega), w64 _ (by omega) (by omega)]
        have e1 : (q : Int) / 2 = ((q / 2 : Nat) : Int) := by omega
        rw [e1, show ((j : Int) + 1) = ((j + 1 : Nat) : Int) from by omega]
        exact step
    simp only [nepentheref08_bits.l0]
    have hb := (byteB v i).isLt
    rw [if_pos (by omega), if_pos (by omega), if_pos (by rw [bys_length]; omega), rd_nat, bys_get v i (by omega), w64 _ (by unfold B; omega) (by unfold B; omega)]
    have := inner 8 k 0 (by omega) (by omega)
    simpa [B] using this
theorem bits_eq (k : Nat) (hk : 200 < k) (v : BitVec 128) : nepentheref08_bits.f k (bys v) = some (bts 128 v) := by
  unfold nepentheref08_bits.f
  exact bits_l0 16 k v 0 (by omega) (by omega)
/-! ### told -/
theorem bys_take_succ (v : BitVec 128) (i : Nat) : ((List.range i).map fun i => B (byteB v i)) ++ [B (byteB v i)] = (List.range (i + 1)).map fun i => B (byteB v i) := by
  simp [List.range_succ]
theorem told_l0 (e : Nat) : ∀ (k : Nat) (v : BitVec 128) (i : Nat), i + e = 16 → 11 * e < k → nepentheref08_told.l0 k (bts 128 v) ((List.range i).map fun i => B (byteB v i)) (i : Int) = some (bys v) := by
  induction e with
  | zero =>
    intro k v i hi hk
    obtain ⟨k, rfl⟩ : ∃ m, k = m + 1 := ⟨k - 1, by omega⟩
    obtain rfl : i = 16 := by omega
    simp only [nepentheref08_told.l0]
    rw [if_neg (by omega)]; rfl
  | succ e ih =>
    intro k v i hi hk
    obtain ⟨k, rfl⟩ : ∃ m, k = m + 1 := ⟨k - 1, by omega⟩
    have hb := (byteB v i).isLt
    have inner : ∀ (m k : Nat), m ≤ 8 → m + 1 + 11 * e < k → nepentheref08_told.l1 k (bts 128 v) ((List.range i).map fun i => B (byteB v i)) (i : Int) (((byteB v i).toNat / 2 ^ m : Nat) : Int) ((m : Int) - 1) = some (bys v) := by
      intro m
      induction m with
      | zero =>
        intro k hm hk
        obtain ⟨k, rfl⟩ : ∃ m, k = m + 1 := ⟨k - 1, by omega⟩
        simp only [nepentheref08_told.l1]
        rw [if_neg (by omega), if_pos (by simp; omega), w64 _ (by omega) (by omega), show ((i : Int) + 1) = ((i + 1 : Nat) : Int) from by omega]
        have e1 : (((byteB v i).toNat / 2 ^ 0 : Nat) : Int) % 256 = B (byteB v i) := by unfold B; simp; omega
        rw [e1, bys_take_succ]
        exact ih k v (i + 1) (by omega) (by omega)
      | succ m ihm =>
        intro k hm hk
        obtain ⟨k, rfl⟩ : ∃ m, k = m + 1 := ⟨k - 1, by omega⟩
        have hq : (byteB v i).toNat / 2 ^ (m + 1) < 256 := Nat.lt_of_le_of_lt (Nat.div_le_self _ _) hb
        have hq2 : (byteB v i).toNat / 2 ^ m < 256 := Nat.lt_of_le_of_lt (Nat.div_le_self _ _) hb
        have hbit := byte_bit v i m (by omega)
        have step := ihm k (by omega) (by omega)
        rw [Nat.pow_succ, ← Nat.div_div_eq_div_mul] at hq ⊢
        generalize (byteB v i).toNat / 2 ^ m = q at hq hq2 hbit step ⊢
        simp only [nepentheref08_told.l1]
        rw [w64 (8 * (i : Int)) (by omega) (by omega), w64 (8 * (i : Int) + (((m + 1 : Nat) : Int) - 1)) (by omega) (by omega)]
        have ei : 8 * (i : Int) + (((m + 1 : Nat) : Int) - 1) = ((8 * i + m : Nat) : Int) := by omega
        rw [ei, if_pos (by omega), if_pos (by omega), if_pos (by rw [bts_length]; omega), rd_nat, bts_get _ _ _ (by omega)]
        rw [Int.tmod_eq_emod_of_nonneg (by omega)] at hbit
        rw [← hbit, w64 (2 * _) (by omega) (by omega), w64 _ (by omega) (by omega), w64 _ (by omega) (by omega)]
        have e2 : 2 * ((q / 2 : Nat) : Int) + (q : Int) % 2 = (q : Int) := by omega
        have e3 : (((m + 1 : Nat) : Int) - 1 - 1) = (m : Int) - 1 := by omega
        rw [e2, e3]
        exact step
    simp only [nepentheref08_told.l0]
    rw [if_pos (by omega)]
    have := inner 8 k (by omega) (by omega)
    have e0 : (byteB v i).toNat / 2 ^ 8 = 0 := by omega
    rw [e0] at this
    exact this
theorem told_eq (k : Nat) (hk : 200 < k) (v : BitVec 128) : nepentheref08_told.f k (bts 128 v) = some (bys v) := by
  unfold nepentheref08_told.f
  exact told_l0 16 k v 0 (by omega) (by omega)
/-! ### left -/
theorem left_l0 (m : Nat) : ∀ (k n : Nat) (q : BitVec 256), m ≤ n → n ≤ 128 → m + 1 < k → nepentheref08_left.l0 k (bts (128 + n) q) ((127 + m : Nat) : Int) = some (bts 128 (red P128 m q)) := by
  induction m with
  | zero =>
    intro k n q hm hn hk
    obtain ⟨k, rfl⟩ : ∃ m, k = m + 1 := ⟨k - 1, by omega⟩
    simp only [nepentheref08_left.l0]
    rw [if_neg (by omega), if_pos (by rw [bts_length]; omega)]
    exact congrArg some (bts_take _ _ _ (by omega))
  | succ m ih =>
    intro k n q hm hn hk
    obtain ⟨k, rfl⟩ : ∃ m, k = m + 1 := ⟨k - 1, by omega⟩
    have step := ih k n (q ^^^ sel (q.getLsbD (128 + m)) ((P128.setWidth 256) <<< m)) (by omega) hn (by omega)
    simp only [nepentheref08_left.l0]
    have e1 : ((127 + (m + 1) : Nat) : Int) - 128 = (m : Int) := by omega
    have e2 : ((127 + (m + 1) : Nat) : Int) - 127 = ((m + 1 : Nat) : Int) := by omega
    have e3 : ((127 + (m + 1) : Nat) : Int) - 126 = ((m + 2 : Nat) : Int) := by omega
    have e4 : ((127 + (m + 1) : Nat) : Int) - 121 = ((m + 7 : Nat) : Int) := by omega
    have e5 : ((127 + (m + 1) : Nat) : Int) - 1 = ((127 + m : Nat) : Int) := by omega
    simp only [e1, e2, e3, e4, e5]
    rw [w64 (m : Int) (by omega) (by omega), w64 ((m + 1 : Nat) : Int) (by omega) (by omega), w64 ((m + 2 : Nat) : Int) (by omega) (by omega), w64 ((m + 7 : Nat) : Int) (by omega) (by omega), w64 ((127 + m : Nat) : Int) (by omega) (by omega)]
    rw [if_pos (by omega), if_pos (by omega), if_pos (by rw [bts_length]; omega), rd_nat, bts_get _ _ _ (by omega)]
    have hl : (bts (128 + n) q).length = 128 + n := bts_length _ _
    rw [show 127 + (m + 1) = 128 + m from by omega]
    cases hc : q.getLsbD (128 + m) with
    | false =>
      rw [if_neg (by simp)]
      rw [hc] at step
      simp only [sel, Bool.false_eq_true, if_false, BitVec.xor_zero] at step
      rw [red, hc]
      simpa [sel] using step
    | true =>
      rw [if_pos (by simp)]
      rw [hc] at step
      simp only [sel, if_true] at step
      have flip : ∀ (q : BitVec 256) (i : Nat), i < 128 + n → (bts (128 + n) q).set (i : Int).toNat (wrap64 (1 - rd (bts (128 + n) q) (i : Int))) = bts (128 + n) (q ^^^ BitVec.twoPow 256 i) := by
        intro q i hi
        rw [rd_nat, Int.toNat_natCast, ← bts_flip _ _ _ hi (by omega), bts_get _ _ _ hi]
        rw [w64 _ (by split <;> omega) (by split <;> omega)]
      rw [if_pos (by omega), if_pos (by omega)]
      simp only [Option.bind_some]
      rw [if_pos (by omega), if_pos (by omega), if_pos (by omega), if_pos (by omega), if_pos (by omega), if_pos (by omega)]
      rw [flip _ _ (by omega), flip _ _ (by omega), flip _ _ (by omega), flip _ _ (by omega)]
      rw [P_shift m (by omega)] at step
      rw [red, hc, P_shift m (by omega)]
      simp only [sel, if_true]
      have ex : q ^^^ BitVec.twoPow 256 m ^^^ BitVec.twoPow 256 (m + 1) ^^^ BitVec.twoPow 256 (m + 2) ^^^ BitVec.twoPow 256 (m + 7) = q ^^^ (BitVec.twoPow 256 m ^^^ BitVec.twoPow 256 (m + 1) ^^^ BitVec.twoPow 256 (m + 2) ^^^ BitVec.twoPow 256 (m + 7)) := by ac_rfl
      rw [ex]
      exact step
theorem left_eq (k n : Nat) (hk : 200 < k) (hn : n ≤ 128) (hn0 : 0 < n) (q : BitVec 256) : nepentheref08_left.f k (bts (128 + n) q) = some (bts 128 (red P128 n q)) := by
  unfold nepentheref08_left.f
  simp only [Option.bind_some, List.length_nil, List.nil_append]
  rw [if_pos (by rw [bts_length]; omega), bts_length, w64 _ (by omega) (by omega), show ((128 + n : Nat) : Int) - 1 = ((127 + n : Nat) : Int) from by omega]
  exact left_l0 n k n q (Nat.le_refl _) hn (by omega)
theorem double_eq (k : Nat) (hk : 200 < k) (v : BitVec 128) : nepentheref08_Double.f k (bys v) = some (bys (dbl P128 v)) := by
  unfold nepentheref08_Double.f
  rw [bits_eq k hk]
  simp only [Option.bind_some]
  have e : ([0] : List Int) ++ bts 128 v = bts (128 + 1) ((v.setWidth 256) <<< 1 : BitVec 256) := by
    refine bts_ext (by simp [bts_length]) fun i hi => ?_
    rw [BitVec.getLsbD_shiftLeft, BitVec.getLsbD_setWidth]
    by_cases h0 : i = 0
    · subst h0; simp
    · obtain ⟨j, rfl⟩ : ∃ j, i = j + 1 := ⟨i - 1, by omega⟩
      have := bts_get 128 v j (by omega)
      have e1 : decide (j + 1 < 256) = true := by simp; omega
      have e2 : decide (j + 1 < 1) = false := by simp
      have e3 : decide (j + 1 - 1 < 256) = true := by simp; omega
      rw [e1, e2, e3]
      simpa using this
  rw [e, if_pos (by rw [bts_length]; simp), left_eq k 1 hk (by omega) (by omega)]
  simp only [Option.bind_some]
  have e2 : bts 128 (red P128 1 ((v.setWidth 256) <<< 1 : BitVec 256)) = bts 128 (dbl P128 v) := by
    rw [← red_dbl (d := 256) (by decide) P128 v (by decide)]
    refine bts_congr fun i hi => ?_
    rw [BitVec.getLsbD_setWidth]; simp [hi]
  rw [e2, told_eq k hk]
  rfl
theorem times_l0 (d : Nat) : ∀ (k : Nat) (v : BitVec 128) (n i : Nat), i + d = n → n ≤ 300 → d + 201 < k → nepentheref08_Times.l0 k (bys v) (n : Int) (i : Int) = some (bys (dbls P128 d v)) := by
  induction d with
  | zero =>
    intro k v n i hi hn hk
    obtain ⟨k, rfl⟩ : ∃ m, k = m + 1 := ⟨k - 1, by omega⟩
    simp only [nepentheref08_Times.l0]
    rw [if_neg (by omega)]; rfl
  | succ d ih =>
    intro k v n i hi hn hk
    obtain ⟨k, rfl⟩ : ∃ m, k = m + 1 := ⟨k - 1, by omega⟩
    simp only [nepentheref08_Times.l0]
    rw [if_pos (by omega), double_eq k (by omega)]
    simp only [Option.bind_some]
    rw [w64 _ (by omega) (by omega), show ((i : Int) + 1) = ((i + 1 : Nat) : Int) from by omega, ih k _ n (i + 1) (by omega) hn (by omega)]
    rfl
theorem times_eq (k : Nat) (hk : 600 < k) (v : BitVec 128) (n : Nat) (hn : n ≤ 300) : nepentheref08_Times.f k (bys v) (n : Int) = some (bys (dbls P128 n v)) := by
  unfold nepentheref08_Times.f
  exact times_l0 n k v n 0 (by omega) hn (by omega)
theorem times_own (v : BitVec 128) (n : Nat) (hn : n ≤ 65536) : twice_Times.f (bys v) (n : Int) = some (bys (dbls P128 n v), 0) := by
  unfold twice_Times.f
  rw [if_pos ⟨bys_length v, by omega, by omega⟩, Int.toNat_natCast, itD_bys]
theorem double_own (v : BitVec 128) : twice_Double.f (bys v) = some (bys (dbl P128 v), 0) := by
  unfold twice_Double.f
  rw [show (1 : Int) = ((1 : Nat) : Int) from rfl, times_own v 1 (by omega)]
  rfl
theorem awake_eq : nepenthelaw08_awake.f = some true := by decide +kernel
end Go.Proofs.Ythmahaoadoeoaaa.Tw
