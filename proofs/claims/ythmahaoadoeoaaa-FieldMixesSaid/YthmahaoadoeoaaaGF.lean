/- GF: doubling and products in a field of 2^w elements given by the word p: plain laws on BitVec, no program. -/
namespace Go.Proofs.Ythmahaoadoeoaaa.Core

/-- doubled -/
def dbl {w : Nat} (p a : BitVec w) : BitVec w := (a <<< 1) ^^^ (if a.msb then p else 0#w)

def sel {w : Nat} (c : Bool) (a : BitVec w) : BitVec w := if c then a else 0#w

theorem sel_xor {w : Nat} (c : Bool) (a b : BitVec w) : sel c (a ^^^ b) = sel c a ^^^ sel c b := by
  cases c <;> simp [sel]
theorem xor_sel {w : Nat} (c d : Bool) (a : BitVec w) : sel (c ^^ d) a = sel c a ^^^ sel d a := by
  cases c <;> cases d <;> simp [sel]

theorem dbl_zero {w : Nat} (p : BitVec w) : dbl p 0#w = 0#w := by simp [dbl]
theorem dbl_xor {w : Nat} (p a b : BitVec w) : dbl p (a ^^^ b) = dbl p a ^^^ dbl p b := by
  have e : (if (a ^^^ b).msb then p else 0#w) = (if a.msb then p else 0#w) ^^^ (if b.msb then p else 0#w) := by
    rw [BitVec.msb_xor]
    cases a.msb <;> cases b.msb <;> simp
  unfold dbl
  rw [e, BitVec.shiftLeft_xor_distrib]
  ac_rfl
theorem dbl_sel {w : Nat} (p : BitVec w) (c : Bool) (a : BitVec w) : dbl p (sel c a) = sel c (dbl p a) := by
  cases c
  · simp [sel, dbl_zero]
  · simp [sel]

/-- doubled n times -/
def dbls {w : Nat} (p : BitVec w) : Nat → BitVec w → BitVec w
  | 0, a => a
  | n + 1, a => dbls p n (dbl p a)

theorem dbls_succ' {w : Nat} (p : BitVec w) (n : Nat) (a : BitVec w) : dbls p (n + 1) a = dbl p (dbls p n a) := by
  induction n generalizing a with
  | zero => rfl
  | succ n ih => rw [dbls, ih, dbls]
theorem dbls_add {w : Nat} (p : BitVec w) (m n : Nat) (a : BitVec w) : dbls p (m + n) a = dbls p m (dbls p n a) := by
  induction m with
  | zero => simp [dbls]
  | succ m ih => rw [show m + 1 + n = (m + n) + 1 from by omega, dbls_succ', ih, dbls_succ']
theorem dbls_xor {w : Nat} (p : BitVec w) (n : Nat) (a b : BitVec w) : dbls p n (a ^^^ b) = dbls p n a ^^^ dbls p n b := by
  induction n generalizing a b with
  | zero => rfl
  | succ n ih => simp only [dbls]; rw [dbl_xor, ih]
theorem dbls_sel {w : Nat} (p : BitVec w) (n : Nat) (c : Bool) (a : BitVec w) : dbls p n (sel c a) = sel c (dbls p n a) := by
  induction n generalizing a with
  | zero => rfl
  | succ n ih => simp only [dbls]; rw [dbl_sel, ih]
theorem dbls_zero {w : Nat} (p : BitVec w) (n : Nat) : dbls p n 0#w = 0#w := by
  induction n with
  | zero => rfl
  | succ n ih => simp only [dbls]; rw [dbl_zero, ih]

/-- the product's first n rows -/
def muls {w : Nat} (p : BitVec w) : Nat → BitVec w → BitVec w → BitVec w
  | 0, _, _ => 0#w
  | n + 1, a, b => muls p n a b ^^^ sel (b.getLsbD n) (dbls p n a)

def mul {w : Nat} (p a b : BitVec w) : BitVec w := muls p w a b

theorem muls_right_xor {w : Nat} (p : BitVec w) (n : Nat) (a b c : BitVec w) : muls p n a (b ^^^ c) = muls p n a b ^^^ muls p n a c := by
  induction n with
  | zero => simp [muls]
  | succ n ih => simp only [muls]; rw [ih, BitVec.getLsbD_xor, xor_sel]; ac_rfl
theorem muls_left_xor {w : Nat} (p : BitVec w) (n : Nat) (a b c : BitVec w) : muls p n (a ^^^ b) c = muls p n a c ^^^ muls p n b c := by
  induction n with
  | zero => simp [muls]
  | succ n ih => simp only [muls]; rw [ih, dbls_xor, sel_xor]; ac_rfl
theorem mul_right_xor {w : Nat} (p a b c : BitVec w) : mul p a (b ^^^ c) = mul p a b ^^^ mul p a c := muls_right_xor p w a b c
theorem mul_left_xor {w : Nat} (p a b c : BitVec w) : mul p (a ^^^ b) c = mul p a c ^^^ mul p b c := muls_left_xor p w a b c

theorem muls_dbl_left {w : Nat} (p : BitVec w) (n : Nat) (a b : BitVec w) : muls p n (dbl p a) b = dbl p (muls p n a b) := by
  induction n with
  | zero => simp [muls, dbl_zero]
  | succ n ih => simp only [muls]; rw [ih, dbl_xor, dbl_sel, ← dbls_succ', dbls]
theorem mul_dbl_left {w : Nat} (p a b : BitVec w) : mul p (dbl p a) b = dbl p (mul p a b) := muls_dbl_left p w a b
theorem mul_dbls_left {w : Nat} (p : BitVec w) (n : Nat) (a b : BitVec w) : mul p (dbls p n a) b = dbls p n (mul p a b) := by
  induction n generalizing a with
  | zero => rfl
  | succ n ih => simp only [dbls]; rw [ih, mul_dbl_left]
theorem muls_zero_left {w : Nat} (p : BitVec w) (n : Nat) (b : BitVec w) : muls p n 0#w b = 0#w := by
  induction n with
  | zero => rfl
  | succ n ih => simp only [muls]; rw [ih, dbls_zero]; simp [sel]
theorem muls_zero_right {w : Nat} (p : BitVec w) (n : Nat) (a : BitVec w) : muls p n a 0#w = 0#w := by
  induction n with
  | zero => rfl
  | succ n ih => simp only [muls]; rw [ih]; simp [sel]

/-- 1 doubled i times is the bit i. -/
theorem dbls_one {w : Nat} (p : BitVec w) (i : Nat) (h : i < w) : dbls p i 1#w = BitVec.twoPow w i := by
  induction i with
  | zero => simp [dbls, BitVec.twoPow_zero]
  | succ i ih =>
    rw [dbls_succ', ih (by omega), dbl]
    have hm : (BitVec.twoPow w i).msb = false := by
      rw [BitVec.msb_twoPow]; simp; omega
    rw [hm]
    apply BitVec.eq_of_getLsbD_eq
    intro j hj
    simp only [Bool.false_eq_true, if_false, BitVec.xor_zero, BitVec.getLsbD_shiftLeft, BitVec.getLsbD_twoPow]
    by_cases hj0 : j = 0
    · subst hj0; simp
    · have e1 : decide (j < 1) = false := by simp; omega
      have e2 : decide (i = j - 1) = decide (i + 1 = j) := by simp; omega
      have e3 : decide (j - 1 < w) = true := by simp; omega
      have e4 : decide (j < w) = true := by simp; omega
      simp only [e1, e4, Bool.not_false, Bool.true_and, e2]
      by_cases h2 : i + 1 = j
      · simp [h2]; omega
      · simp [h2]

theorem muls_one {w : Nat} (p : BitVec w) (n : Nat) (hn : n ≤ w) (b : BitVec w) (j : Nat) : (muls p n 1#w b).getLsbD j = (decide (j < n) && b.getLsbD j) := by
  induction n with
  | zero => simp [muls]
  | succ n ih =>
    simp only [muls]
    rw [BitVec.getLsbD_xor, ih (by omega), dbls_one p n (by omega)]
    cases hb : b.getLsbD n with
    | false =>
      simp only [sel, Bool.false_eq_true, if_false, BitVec.getLsbD_zero, Bool.xor_false]
      by_cases hj : j = n
      · subst hj; simp [hb]
      · have : decide (j < n + 1) = decide (j < n) := by simp; omega
        rw [this]
    | true =>
      simp only [sel, if_true, BitVec.getLsbD_twoPow]
      by_cases hj : j = n
      · subst hj; simp [hb]; omega
      · have : decide (j < n + 1) = decide (j < n) := by simp; omega
        rw [this]
        have : decide (n = j) = false := by simp; omega
        simp [this]
theorem one_mul {w : Nat} (p b : BitVec w) : mul p 1#w b = b := by
  apply BitVec.eq_of_getLsbD_eq
  intro j hj
  rw [mul, muls_one p w (Nat.le_refl _)]
  simp [hj]

/-- a law on linear maps: what holds of 1 and passes through doubling holds of all. -/
theorem linear_eq {w : Nat} (p : BitVec w) (f g : BitVec w → BitVec w) (hf : ∀ a b, f (a ^^^ b) = f a ^^^ f b) (hg : ∀ a b, g (a ^^^ b) = g a ^^^ g b)
    (hfd : ∀ a, f (dbl p a) = dbl p (f a)) (hgd : ∀ a, g (dbl p a) = dbl p (g a)) (h1 : f 1#w = g 1#w) (a : BitVec w) : f a = g a := by
  have hf0 : f 0#w = 0#w := by have := hf 0#w 0#w; simpa using this
  have hg0 : g 0#w = 0#w := by have := hg 0#w 0#w; simpa using this
  have hd : ∀ n, f (dbls p n 1#w) = g (dbls p n 1#w) := by
    intro n
    induction n with
    | zero => exact h1
    | succ n ih => rw [dbls_succ', hfd, hgd, ih]
  have hm : ∀ n, f (muls p n 1#w a) = g (muls p n 1#w a) := by
    intro n
    induction n with
    | zero => simp [muls, hf0, hg0]
    | succ n ih =>
      simp only [muls]
      rw [hf, hg, ih]
      cases a.getLsbD n
      · simp [sel, hf0, hg0]
      · simp only [sel, if_true]; rw [hd]
  have := hm w
  rw [show muls p w 1#w a = a from one_mul p a] at this
  exact this

theorem dbls_comm {w : Nat} (p : BitVec w) (n : Nat) (a : BitVec w) : dbls p n (dbl p a) = dbl p (dbls p n a) := by
  rw [← dbls_succ']; rfl

/-- doubled w times: a product with p. -/
theorem dbls_full {w : Nat} (hw : 0 < w) (p a : BitVec w) : dbls p w a = mul p a p := by
  refine linear_eq p (dbls p w) (fun a => mul p a p) (dbls_xor p w) (fun a b => mul_left_xor p a b p) (fun a => dbls_comm p w a) (fun a => mul_dbl_left p a p) ?_ a
  show _ = mul p 1#w p
  rw [one_mul]
  obtain ⟨m, rfl⟩ : ∃ m, w = m + 1 := ⟨w - 1, by omega⟩
  rw [dbls_succ', dbls_one p m (by omega), dbl]
  have hm : (BitVec.twoPow (m + 1) m).msb = true := by rw [BitVec.msb_twoPow]; simp
  rw [hm]
  simp only [if_true]
  have : (BitVec.twoPow (m + 1) m) <<< 1 = 0#(m + 1) := by
    apply BitVec.eq_of_getLsbD_eq
    intro j hj
    simp [BitVec.getLsbD_twoPow]
    omega
  rw [this]; simp

theorem muls_shift {w : Nat} (p : BitVec w) (n : Nat) (hn : n < w) (a b : BitVec w) : muls p (n + 1) a (b <<< 1) = muls p n (dbl p a) b := by
  induction n with
  | zero => simp [muls, sel]
  | succ n ih =>
    rw [muls, ih (by omega)]
    conv => rhs; rw [muls]
    congr 1
    have : (b <<< 1).getLsbD (n + 1) = b.getLsbD n := by simp [BitVec.getLsbD_shiftLeft]; omega
    rw [this]; rfl

theorem mul_dbl_right {w : Nat} (p a b : BitVec w) : mul p a (dbl p b) = dbl p (mul p a b) := by
  rcases Nat.eq_zero_or_pos w with rfl | hw
  · exact Subsingleton.elim _ _
  obtain ⟨m, rfl⟩ : ∃ m, w = m + 1 := ⟨w - 1, by omega⟩
  conv => lhs; rw [dbl, mul_right_xor]
  have e1 : mul p a (b <<< 1) = muls p m (dbl p a) b := by rw [mul, muls_shift p m (by omega)]
  have e2 : dbl p (mul p a b) = muls p m (dbl p a) b ^^^ sel (b.getLsbD m) (dbls p (m + 1) a) := by
    rw [← mul_dbl_left, mul, muls, dbls]
  have e3 : mul p a (if b.msb = true then p else 0#(m + 1)) = sel (b.getLsbD m) (dbls p (m + 1) a) := by
    rw [dbls_full hw]
    have : b.msb = b.getLsbD m := by rw [BitVec.msb_eq_getLsbD_last]; simp
    rw [this]
    cases b.getLsbD m
    · simp [sel, mul, muls_zero_right]
    · simp [sel]
  rw [e1, e2, e3]

theorem mul_one {w : Nat} (p a : BitVec w) : mul p a 1#w = a := by
  refine linear_eq p (fun a => mul p a 1#w) (fun a => a) (fun a b => mul_left_xor p a b _) (fun _ _ => rfl) (fun a => mul_dbl_left p a _) (fun _ => rfl) ?_ a
  exact one_mul p _
theorem mul_comm {w : Nat} (p a b : BitVec w) : mul p a b = mul p b a := by
  refine linear_eq p (fun a => mul p a b) (fun a => mul p b a) (fun x y => mul_left_xor p x y b) (fun x y => mul_right_xor p b x y) (fun x => mul_dbl_left p x b) (fun x => mul_dbl_right p b x) ?_ a
  show mul p 1#w b = mul p b 1#w
  rw [one_mul, mul_one]
theorem mul_assoc {w : Nat} (p a b c : BitVec w) : mul p (mul p a b) c = mul p a (mul p b c) := by
  refine linear_eq p (fun a => mul p (mul p a b) c) (fun a => mul p a (mul p b c)) (fun x y => ?_) (fun x y => mul_left_xor p x y _) (fun x => ?_) (fun x => mul_dbl_left p x _) ?_ a
  · show mul p (mul p (x ^^^ y) b) c = _
    rw [mul_left_xor, mul_left_xor]
  · show mul p (mul p (dbl p x) b) c = _
    rw [mul_dbl_left, mul_dbl_left]
  · show mul p (mul p 1#w b) c = mul p 1#w (mul p b c)
    rw [one_mul, one_mul]

/-- doubling keeps unlike words unlike, if p is odd. -/
theorem dbl_inj {w : Nat} (p : BitVec w) (hp : p.getLsbD 0 = true) (a b : BitVec w) (h : dbl p a = dbl p b) : a = b := by
  have hd : dbl p (a ^^^ b) = 0#w := by rw [dbl_xor, h]; simp
  have key : ∀ d : BitVec w, dbl p d = 0#w → d = 0#w := by
    intro d hd
    have h0 := congrArg (fun x => x.getLsbD 0) hd
    cases hm : d.msb with
    | true => simp [dbl, hm, hp] at h0
    | false =>
      simp only [dbl, hm, Bool.false_eq_true, if_false, BitVec.xor_zero] at hd
      apply BitVec.eq_of_getLsbD_eq
      intro j hj
      by_cases hl : j + 1 = w
      · rw [BitVec.msb_eq_getLsbD_last] at hm
        rw [show j = w - 1 from by omega, hm]; simp
      · have := congrArg (fun x => x.getLsbD (j + 1)) hd
        simp at this
        rw [this (by omega)]; simp
  have := key _ hd
  exact BitVec.xor_eq_zero_iff.mp this
theorem dbls_inj {w : Nat} (p : BitVec w) (hp : p.getLsbD 0 = true) (n : Nat) (a b : BitVec w) (h : dbls p n a = dbls p n b) : a = b := by
  induction n generalizing a b with
  | zero => exact h
  | succ n ih => exact dbl_inj p hp _ _ (ih _ _ h)

theorem muls_front {w : Nat} (p : BitVec w) (n : Nat) (a b : BitVec w) : muls p (n + 1) a b = sel (b.getLsbD 0) a ^^^ muls p n (dbl p a) (b >>> 1) := by
  induction n with
  | zero => simp [muls, dbls]
  | succ n ih =>
    rw [muls, ih]
    conv => rhs; rw [muls]
    have : (b >>> 1).getLsbD n = b.getLsbD (n + 1) := by simp [BitVec.getLsbD_ushiftRight]; rw [Nat.add_comm]
    rw [this, dbls]
    ac_rfl
end Go.Proofs.Ythmahaoadoeoaaa.Core
