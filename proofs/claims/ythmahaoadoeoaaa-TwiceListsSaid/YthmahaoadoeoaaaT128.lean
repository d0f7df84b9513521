/- Sixteen bytes as a word of 128 bits: doubling and products by bytes, and by lists of coefficients: plain laws, no program. -/
import Derived.Test.YthmahaoadoeoaaaGF
namespace Go.Proofs.Ythmahaoadoeoaaa.Core
abbrev P128 : BitVec 128 := 135#128
/-- byte i of a word -/
def byteB {w : Nat} (v : BitVec w) (i : Nat) : BitVec 8 := v.extractLsb' (8 * i) 8
theorem byteB_bit {w : Nat} (v : BitVec w) (i j : Nat) (hj : j < 8) : (byteB v i).getLsbD j = v.getLsbD (8 * i + j) := by
  simp [byteB, hj]
theorem word_ext {v u : BitVec 128} (h : ∀ i, i < 16 → byteB v i = byteB u i) : v = u := by
  apply BitVec.eq_of_getLsbD_eq
  intro i hi
  have := congrArg (fun x => x.getLsbD (i % 8)) (h (i / 8) (by omega))
  simp only [byteB_bit _ _ _ (Nat.mod_lt _ (by decide : 0 < 8))] at this
  rwa [show 8 * (i / 8) + i % 8 = i from by omega] at this
theorem byteB_xor {w : Nat} (v u : BitVec w) (i : Nat) : byteB (v ^^^ u) i = byteB v i ^^^ byteB u i := by
  apply BitVec.eq_of_getLsbD_eq
  intro j hj
  rw [BitVec.getLsbD_xor, byteB_bit _ _ _ hj, byteB_bit _ _ _ hj, byteB_bit _ _ _ hj, BitVec.getLsbD_xor]
theorem byteB_zero (w i : Nat) : byteB (0#w) i = 0#8 := by
  apply BitVec.eq_of_getLsbD_eq
  intro j hj
  rw [byteB_bit _ _ _ hj]; simp
/-- byte i of the word shifted by one bit -/
theorem byteB_shl (v : BitVec 128) (i : Nat) (hi : i < 16) : byteB (v <<< 1) i = (byteB v i <<< 1) ||| (if i = 0 then 0#8 else byteB v (i - 1) >>> 7) := by
  apply BitVec.eq_of_getLsbD_eq
  intro j hj
  rw [byteB_bit _ _ _ hj, BitVec.getLsbD_or, BitVec.getLsbD_shiftLeft, BitVec.getLsbD_shiftLeft]
  by_cases h0 : i = 0
  · subst h0
    rw [if_pos rfl]
    by_cases hj0 : j = 0
    · subst hj0; simp
    · rw [byteB_bit _ _ _ (by omega)]
      have e1 : decide (j < 1) = false := by simp; omega
      have e2 : decide (8 * 0 + j < 1) = false := by simp; omega
      have e3 : decide (8 * 0 + j < 128) = true := by simp; omega
      have e4 : decide (j < 8) = true := by simp; omega
      simp only [e1, e2, e3, e4, Bool.not_false, Bool.true_and, BitVec.getLsbD_zero, Bool.or_false]
      congr 1
      omega
  · rw [if_neg h0, BitVec.getLsbD_ushiftRight]
    have e2 : decide (8 * i + j < 1) = false := by simp; omega
    have e3 : decide (8 * i + j < 128) = true := by simp; omega
    have e4 : decide (j < 8) = true := by simp; omega
    simp only [e2, e3, e4, Bool.not_false, Bool.true_and]
    by_cases hj0 : j = 0
    · subst hj0
      have e1 : decide (0 < 1) = true := rfl
      simp only [e1, Bool.not_true, Bool.false_and, Bool.false_or]
      rw [byteB_bit _ _ _ (by omega), show 8 * i + 0 - 1 = 8 * (i - 1) + (7 + 0) from by omega]
    · have e1 : decide (j < 1) = false := by simp; omega
      rw [e1, byteB_bit _ _ _ (by omega)]
      have : (byteB v (i - 1)).getLsbD (7 + j) = false := BitVec.getLsbD_of_ge _ _ (by omega)
      rw [this]
      simp
      congr 1
      omega
theorem msb_byte (v : BitVec 128) : (byteB v 15 >>> 7) = if v.msb then 1#8 else 0#8 := by
  apply BitVec.eq_of_getLsbD_eq
  intro j hj
  rw [BitVec.getLsbD_ushiftRight]
  by_cases hj0 : j = 0
  · subst hj0
    rw [byteB_bit _ _ _ (by omega), BitVec.msb_eq_getLsbD_last]
    show v.getLsbD 127 = _
    cases v.getLsbD 127 <;> rfl
  · rw [BitVec.getLsbD_of_ge _ _ (by omega)]
    cases v.msb
    · rw [if_neg (by decide), BitVec.getLsbD_zero]
    · rw [if_pos rfl, BitVec.getLsbD_one]; simp [hj0]
theorem byteB_P (i : Nat) : byteB P128 i = if i = 0 then 135#8 else 0#8 := by
  by_cases h : i = 0
  · subst h; decide
  · rw [if_neg h]
    apply BitVec.eq_of_toNat_eq
    simp [byteB, Nat.shiftRight_eq_div_pow]
    have : 2 ^ 8 ≤ 2 ^ (8 * i) := Nat.pow_le_pow_right (by decide) (by omega)
    rw [Nat.div_eq_of_lt (by omega)]
theorem byteB_dbl (v : BitVec 128) (i : Nat) (hi : i < 16) : byteB (dbl P128 v) i = ((byteB v i <<< 1) ||| (if i = 0 then 0#8 else byteB v (i - 1) >>> 7)) ^^^ (if i = 0 then (135#8 * (byteB v 15 >>> 7)) else 0#8) := by
  rw [dbl, byteB_xor, byteB_shl v i hi, msb_byte]
  congr 1
  cases v.msb
  · simp [byteB_zero]
  · simp only [if_true]
    rw [byteB_P]
    simp
/-! ### a polynomial of twice the width, and what is left of it -/
/-- the first n coefficients, put in -/
def ev {w d : Nat} (p : BitVec w) : Nat → BitVec d → BitVec w
  | 0, _ => 0#w
  | n + 1, q => ev p n q ^^^ sel (q.getLsbD n) (dbls p n 1#w)
theorem ev_xor {w d : Nat} (p : BitVec w) (n : Nat) (q r : BitVec d) : ev p n (q ^^^ r) = ev p n q ^^^ ev p n r := by
  induction n with
  | zero => simp [ev]
  | succ n ih => simp only [ev]; rw [ih, BitVec.getLsbD_xor, xor_sel]; ac_rfl
theorem ev_zero {w d : Nat} (p : BitVec w) (n : Nat) : ev p n (0#d) = 0#w := by
  induction n with
  | zero => rfl
  | succ n ih => simp only [ev]; rw [ih]; simp [sel]
theorem ev_sel {w d : Nat} (p : BitVec w) (n : Nat) (c : Bool) (q : BitVec d) : ev p n (sel c q) = sel c (ev p n q) := by
  cases c
  · simp [sel, ev_zero]
  · simp [sel]
/-- a word of the field, as a polynomial -/
theorem ev_word {w d : Nat} (p a : BitVec w) (_hd : w ≤ d) (n : Nat) (hn : n ≤ w) : ev p n (a.setWidth d) = muls p n 1#w a := by
  induction n with
  | zero => rfl
  | succ n ih =>
    rw [ev, ih (by omega), muls]
    congr 2
    rw [BitVec.getLsbD_setWidth]; simp; omega
theorem ev_high {w d : Nat} (p : BitVec w) (q : BitVec d) (m n : Nat) (h : ∀ i, m ≤ i → q.getLsbD i = false) (hn : m ≤ n) : ev p n q = ev p m q := by
  induction n with
  | zero => rw [show m = 0 from by omega]
  | succ n ih =>
    by_cases he : m = n + 1
    · rw [he]
    · rw [ev, h n (by omega), ih (by omega)]; simp [sel]
/-- shifted by one, put in: doubled -/
theorem ev_shl1 {w d : Nat} (p : BitVec w) (q : BitVec d) (n : Nat) (hn : n < d) : ev p (n + 1) (q <<< 1) = dbl p (ev p n q) := by
  induction n with
  | zero => simp [ev, sel, dbl_zero]
  | succ n ih =>
    rw [ev, ih (by omega), ev, dbl_xor, dbl_sel, ← dbls_succ']
    congr 2
    rw [BitVec.getLsbD_shiftLeft]
    simp; omega
theorem ev_shl {w d : Nat} (p : BitVec w) (q : BitVec d) (m n : Nat) (hn : n + m ≤ d) : ev p (n + m) (q <<< m) = dbls p m (ev p n q) := by
  induction m with
  | zero => simp [dbls]
  | succ m ih =>
    rw [← Nat.add_assoc, show q <<< (m + 1) = (q <<< m) <<< 1 from by rw [BitVec.shiftLeft_add], ev_shl1 _ _ _ (by omega), ih (by omega), dbls_succ']
/-- what is left: the coefficients from w + m - 1 down to w are put down. -/
def red {w d : Nat} (p : BitVec w) : Nat → BitVec d → BitVec d
  | 0, q => q
  | m + 1, q => red p m (q ^^^ sel (q.getLsbD (w + m)) ((p.setWidth d) <<< m))
theorem red_step {w d : Nat} (hw : 0 < w) (p : BitVec w) (m : Nat) (hd : w + m < d) (q : BitVec d) : ev p (w + m) (q ^^^ sel (q.getLsbD (w + m)) ((p.setWidth d) <<< m)) = ev p (w + m + 1) q := by
  rw [ev_xor, ev_sel, ev_shl _ _ _ _ (by omega), ev_word p p (by omega) w (Nat.le_refl _), ev]
  have e : muls p w 1#w p = dbls p w 1#w := by
    rw [dbls_full hw]; rfl
  rw [e, ← dbls_add, Nat.add_comm m w]
theorem red_ev {w d : Nat} (hw : 0 < w) (p : BitVec w) (m : Nat) (hd : w + m ≤ d) (q : BitVec d) : ev p w (red p m q) = ev p (w + m) q := by
  induction m generalizing q with
  | zero => rfl
  | succ m ih => rw [red, ih (by omega), red_step hw p m (by omega), Nat.add_assoc]
theorem ev_low {w d : Nat} (p : BitVec w) (_hd : w ≤ d) (q : BitVec d) : ev p w q = q.setWidth w := by
  have h : ∀ n, n ≤ w → ev p n q = muls p n 1#w (q.setWidth w) := by
    intro n hn
    induction n with
    | zero => rfl
    | succ n ih =>
      rw [ev, muls, ih (by omega)]
      congr 2
      rw [BitVec.getLsbD_setWidth]; simp; omega
  rw [h w (Nat.le_refl _)]
  exact one_mul p _
theorem red_setWidth {w d : Nat} (hw : 0 < w) (p : BitVec w) (m : Nat) (hd : w + m ≤ d) (q : BitVec d) : (red p m q).setWidth w = ev p (w + m) q := by
  rw [← ev_low p (by omega), red_ev hw p m hd]
/-- the product of polynomials: the rows so far -/
def prods {w d : Nat} : Nat → BitVec w → BitVec w → BitVec d
  | 0, _, _ => 0#d
  | n + 1, a, b => prods n a b ^^^ sel (a.getLsbD n) ((b.setWidth d) <<< n)
theorem ev_row {w d : Nat} (p b : BitVec w) (n : Nat) (hn : n < w) (hd : w + w ≤ d) : ev p (w + w) ((b.setWidth d) <<< n) = dbls p n b := by
  have h : ev p (w + w) ((b.setWidth d) <<< n) = ev p (w + n) ((b.setWidth d) <<< n) := by
    refine ev_high p _ _ _ (fun i hi => ?_) (by omega)
    rw [BitVec.getLsbD_shiftLeft, BitVec.getLsbD_setWidth, BitVec.getLsbD_of_ge b _ (by omega)]
    simp
  rw [h, ev_shl _ _ _ _ (by omega), ev_word p b (by omega) w (Nat.le_refl _)]
  show dbls p n (mul p 1#w b) = _
  rw [one_mul]
theorem ev_prods {w d : Nat} (p a b : BitVec w) (hd : w + w ≤ d) (n : Nat) (hn : n ≤ w) : ev p (w + w) (prods (d := d) n a b) = muls p n b a := by
  induction n with
  | zero => simp [prods, ev_zero, muls]
  | succ n ih => rw [prods, ev_xor, ih (by omega), ev_sel, ev_row p b n (by omega) hd, muls]
/-- the product in the field -/
theorem red_prods {w d : Nat} (hw : 0 < w) (p a b : BitVec w) (hd : w + w ≤ d) : (red p w (prods (d := d) w a b)).setWidth w = mul p a b := by
  rw [red_setWidth hw p w hd, ev_prods p a b hd w (Nat.le_refl _), mul_comm]; rfl
theorem red_dbl {w d : Nat} (hw : 0 < w) (p a : BitVec w) (hd : w + 1 ≤ d) : (red p 1 ((a.setWidth d) <<< 1)).setWidth w = dbl p a := by
  rw [red_setWidth hw p 1 hd, ev_shl _ _ _ _ (by omega), ev_word p a (by omega) w (Nat.le_refl _)]
  show dbl p (mul p 1#w a) = _
  rw [one_mul]
end Go.Proofs.Ythmahaoadoeoaaa.Core
