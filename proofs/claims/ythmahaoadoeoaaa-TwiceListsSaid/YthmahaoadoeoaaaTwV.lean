/- Lists of sixteen bytes as words of 128 bits: what the doubling and the product of twice come to. No program's text here. -/
import Derived.Test.YthmahaoadoeoaaaTwD
import Derived.Test.YthmahaoadoeoaaaT128
import Derived.Test.YthmahaoadoeoaaaIB
namespace Go.Proofs.Ythmahaoadoeoaaa.Tw
open Go.RowKit Go.Proofs.Ythmahaoadoeoaaa.Core
/-- a word's bytes -/
def bys (v : BitVec 128) : List Int := (List.range 16).map fun i => B (byteB v i)
theorem bys_length (v : BitVec 128) : (bys v).length = 16 := by simp [bys]
theorem bys_get (v : BitVec 128) (i : Nat) (h : i < 16) : (bys v).getD i 0 = B (byteB v i) := by
  simp [bys, h]
theorem list_ext {l l' : List Int} (hl : l.length = 16) (hl' : l'.length = 16) (h : ∀ i, i < 16 → l.getD i 0 = l'.getD i 0) : l = l' := by
  apply List.ext_getElem (by rw [hl, hl'])
  intro i h1 h2
  have := h i (by omega)
  simpa [h1, h2] using this
theorem bys_inj {v u : BitVec 128} (h : bys v = bys u) : v = u := by
  apply word_ext
  intro i hi
  apply B_inj
  rw [← bys_get v i hi, ← bys_get u i hi, h]
/-- whatever sixteen bytes are a word's -/
theorem bys_of (l : List Int) (hl : l.length = 16) (hw : ∀ x ∈ l, (Lit.int .u8 x).wf = true) : ∃ v, l = bys v := by
  have hb : ∀ i, ∃ b : BitVec 8, i < 16 → l.getD i 0 = B b := by
    intro i
    by_cases h : i < 16
    · have hm : l.getD i 0 ∈ l := by
        have : l.getD i 0 = l[i] := by simp [show i < l.length by omega]
        rw [this]; exact List.getElem_mem _
      obtain ⟨b, hb⟩ := B_of _ (hw _ hm)
      exact ⟨b, fun _ => hb⟩
    · exact ⟨0#8, fun h' => absurd h' h⟩
  let f : Nat → BitVec 8 := fun i => Classical.choose (hb i)
  have hf : ∀ i, i < 16 → l.getD i 0 = B (f i) := fun i => Classical.choose_spec (hb i)
  let bs : List Bool := (List.range 128).map fun i => (f (i / 8)).getLsbD (i % 8)
  refine ⟨(BitVec.ofBoolListLE bs).setWidth 128, ?_⟩
  refine list_ext hl (bys_length _) fun i hi => ?_
  rw [hf i hi, bys_get _ i hi]
  congr 1
  apply BitVec.eq_of_getLsbD_eq
  intro j hj
  rw [byteB_bit _ _ _ hj, BitVec.getLsbD_setWidth, BitVec.getLsbD_ofBoolListLE]
  have e : decide (8 * i + j < 128) = true := by simp; omega
  rw [e]
  simp [bs, show 8 * i + j < 128 by omega, show (8 * i + j) / 8 = i by omega, show (8 * i + j) % 8 = j by omega]
theorem carryAt_bys (v : BitVec 128) (k : Nat) (hk : k ≤ 16) : carryAt (bys v) k = B (if k = 0 then 0#8 else byteB v (k - 1) >>> 7) := by
  cases k with
  | zero => rfl
  | succ k => rw [carryAt, bys_get v k (by omega), shr8_7]; simp
theorem outs_get (l : List Int) (i : Nat) (h : i < 16) : (outs l 16).getD i 0 = outAt l i := by
  simp [outs, zer, h]
theorem dblL_bys (v : BitVec 128) : dblL (bys v) = bys (dbl P128 v) := by
  refine list_ext (dblL_length _) (bys_length _) fun i hi => ?_
  have ho : ∀ j, j < 16 → outAt (bys v) j = B ((byteB v j <<< 1) ||| (if j = 0 then 0#8 else byteB v (j - 1) >>> 7)) := by
    intro j hj
    rw [outAt, bys_get v j hj, shl8, carryAt_bys v j (by omega), or8]
  rw [bys_get _ i hi, byteB_dbl v i hi, dblL]
  by_cases h0 : i = 0
  · subst h0
    rw [if_pos rfl, if_pos rfl, carryAt_bys v 16 (by omega), if_neg (by decide), show (135 : Int) = B 135#8 from rfl, mul8, outs_get _ 0 (by omega), ho 0 (by omega), if_pos rfl, xor8]
    have : 0 < (outs (bys v) 16).length := by rw [outs_length _ _ (by omega)]; omega
    simp [this]
  · rw [if_neg h0, if_neg h0]
    have e : ((outs (bys v) 16).set 0 (Go.bits .xor .u8 ((outs (bys v) 16).getD 0 0) ((135 * carryAt (bys v) 16) % 256))).getD i 0 = (outs (bys v) 16).getD i 0 := by
      simp only [List.getD_eq_getElem?_getD]
      rw [List.getElem?_set_ne (by omega)]
    rw [e, outs_get _ i hi, ho i hi, if_neg h0, BitVec.xor_zero]
theorem itD_bys (n : Nat) (v : BitVec 128) : itD n (bys v) = bys (dbls P128 n v) := by
  induction n generalizing v with
  | zero => rfl
  | succ n ih => rw [itD, dblL_bys, ih]; rfl
theorem xk_get (k : Nat) (o x : List Int) (hk : k ≤ o.length) (j : Nat) (hj : j < o.length) : (xk k o x).getD j 0 = if j < k then Go.bits .xor .u8 (o.getD j 0) (x.getD j 0) else o.getD j 0 := by
  induction k with
  | zero => simp [xk]
  | succ k ih =>
    have ih := ih (by omega)
    rw [xk]
    simp only [List.getD_eq_getElem?_getD] at ih ⊢
    by_cases h : j = k
    · subst h
      rw [List.getElem?_set_self (by rw [xk_length]; omega), if_pos (by omega), ih, if_neg (by omega)]
      rfl
    · rw [List.getElem?_set_ne (by omega), ih]
      by_cases h2 : j < k
      · rw [if_pos h2, if_pos (by omega)]
      · rw [if_neg h2, if_neg (by omega)]
theorem xk_bys (a b : BitVec 128) : xk 16 (bys a) (bys b) = bys (a ^^^ b) := by
  refine list_ext (by rw [xk_length, bys_length]) (bys_length _) fun i hi => ?_
  rw [xk_get 16 _ _ (by rw [bys_length]; omega) i (by rw [bys_length]; omega), if_pos hi, bys_get a i hi, bys_get b i hi, bys_get _ i hi, xor8, byteB_xor]
theorem bitAt_bys (b : BitVec 128) (i : Nat) (hi : i < 128) : bitAt (bys b) i = b.getLsbD i := by
  rw [bitAt, bys_get b (i / 8) (by omega), shr8, and8_1, BitVec.getLsbD_ushiftRight, byteB_bit _ _ _ (by omega), show 8 * (i / 8) + (i % 8 + 0) = i from by omega]
  cases b.getLsbD i <;> rfl
theorem zer_bys : zer 16 = bys 0#128 := by
  refine list_ext (zer_length _) (bys_length _) fun i hi => ?_
  rw [bys_get _ i hi, byteB_zero]
  unfold zer
  rw [List.getD_eq_getElem?_getD, List.getElem?_replicate, if_pos hi]
  rfl
theorem mulOut_bys (a b : BitVec 128) (n : Nat) (hn : n ≤ 128) : mulOut (bys a) (bys b) n = bys (muls P128 n a b) := by
  induction n with
  | zero => exact zer_bys
  | succ n ih =>
    rw [mulOut, ih (by omega), itD_bys, bitAt_bys b n (by omega), muls]
    cases b.getLsbD n
    · simp [sel]
    · simp [sel, xk_bys]
theorem mul_bys (a b : BitVec 128) : mulOut (bys a) (bys b) 128 = bys (mul P128 a b) := mulOut_bys a b 128 (Nat.le_refl _)
/-! ### lists of coefficients -/
def bts {d : Nat} (n : Nat) (q : BitVec d) : List Int := (List.range n).map fun i => if q.getLsbD i then 1 else 0
theorem bts_length {d : Nat} (n : Nat) (q : BitVec d) : (bts n q).length = n := by simp [bts]
theorem bts_get {d : Nat} (n : Nat) (q : BitVec d) (i : Nat) (h : i < n) : (bts n q).getD i 0 = if q.getLsbD i then 1 else 0 := by
  simp [bts, h]
theorem bts_succ {d : Nat} (n : Nat) (q : BitVec d) : bts (n + 1) q = bts n q ++ [if q.getLsbD n then 1 else 0] := by
  simp [bts, List.range_succ]
theorem bts_take {d : Nat} (n m : Nat) (q : BitVec d) (h : m ≤ n) : (bts n q).take m = bts m q := by
  simp [bts, ← List.map_take, List.take_range, Nat.min_eq_left h]
theorem bts_ext {d : Nat} {n : Nat} {q : BitVec d} {l : List Int} (hl : l.length = n) (h : ∀ i, i < n → l.getD i 0 = if q.getLsbD i then 1 else 0) : l = bts n q := by
  apply List.ext_getElem (by rw [hl, bts_length])
  intro i h1 h2
  have := h i (by omega)
  have e : (bts n q)[i] = (bts n q).getD i 0 := by simp [h2]
  rw [e, bts_get n q i (by omega), ← this]
  simp [h1]
theorem bts_congr {d d' : Nat} {n : Nat} {q : BitVec d} {r : BitVec d'} (h : ∀ i, i < n → q.getLsbD i = r.getLsbD i) : bts n q = bts n r :=
  bts_ext (bts_length _ _) fun i hi => by rw [bts_get _ _ _ hi, h i hi]
theorem bts_flip {d : Nat} (n : Nat) (q : BitVec d) (i : Nat) (h : i < n) (hd : n ≤ d) : (bts n q).set i (1 - (bts n q).getD i 0) = bts n (q ^^^ BitVec.twoPow d i) := by
  refine bts_ext (by rw [List.length_set, bts_length]) fun j hj => ?_
  rw [BitVec.getLsbD_xor, BitVec.getLsbD_twoPow]
  simp only [List.getD_eq_getElem?_getD]
  by_cases e : i = j
  · subst e
    rw [List.getElem?_set_self (by rw [bts_length]; exact h)]
    have := bts_get n q i h
    simp only [List.getD_eq_getElem?_getD] at this
    simp only [Option.getD_some, this]
    have e1 : decide (i < d) = true := by simp; omega
    cases q.getLsbD i <;> simp [e1]
  · rw [List.getElem?_set_ne e]
    have := bts_get n q j hj
    simp only [List.getD_eq_getElem?_getD] at this
    rw [this]
    simp [e]
theorem P_shift (m : Nat) (hm : m + 8 ≤ 256) : ((P128.setWidth 256) <<< m : BitVec 256) = BitVec.twoPow 256 m ^^^ BitVec.twoPow 256 (m + 1) ^^^ BitVec.twoPow 256 (m + 2) ^^^ BitVec.twoPow 256 (m + 7) := by
  have e : (P128.setWidth 256 : BitVec 256) = BitVec.twoPow 256 0 ^^^ BitVec.twoPow 256 1 ^^^ BitVec.twoPow 256 2 ^^^ BitVec.twoPow 256 7 := by decide
  have h : ∀ t, t + m < 256 → (BitVec.twoPow 256 t) <<< m = BitVec.twoPow 256 (m + t) := by
    intro t ht
    apply BitVec.eq_of_getLsbD_eq
    intro j hj
    rw [BitVec.getLsbD_shiftLeft, BitVec.getLsbD_twoPow, BitVec.getLsbD_twoPow]
    have e1 : decide (j < 256) = true := by simp; omega
    have e2 : decide (t < 256) = true := by simp; omega
    have e3 : decide (m + t < 256) = true := by simp; omega
    rw [e1, e2, e3]
    by_cases h1 : j < m
    · have e4 : decide (m + t = j) = false := by simp; omega
      have e5 : decide (j < m) = true := by simp; omega
      rw [e4, e5]; rfl
    · have e4 : decide (t = j - m) = decide (m + t = j) := by simp; omega
      have e5 : decide (j < m) = false := by simp; omega
      rw [e4, e5]; simp
  rw [e, BitVec.shiftLeft_xor_distrib, BitVec.shiftLeft_xor_distrib, BitVec.shiftLeft_xor_distrib, h 0 (by omega), h 1 (by omega), h 2 (by omega), h 7 (by omega), Nat.add_zero]
end Go.Proofs.Ythmahaoadoeoaaa.Tw
