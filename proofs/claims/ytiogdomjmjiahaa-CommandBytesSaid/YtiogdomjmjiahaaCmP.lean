/- Numbers as bytes, and a command's text, in plain lists. -/
import Derived.Test.YtiogdomjmjiahaaQAx1
import Derived.Test.YtiogdomjmjiahaaQAx2
import Derived.Test.YtiogdomjmjiahaaCmA
namespace Go.Proofs.Ytiogdomjmjiahaa.Own
open Go.RowKit Go.Proofs.Ytiogdomjmjiahaa.Arr Go.Proofs.Ytiogdomjmjiahaa.QA Go.Proofs.YtiogdomjmjiahaaW.PrintWords Go.Proofs.YtiogdomjmjiahaaW.PrintLast Go.Proofs.YtiogdomjmjiahaaW.PrintMore
set_option linter.unusedVariables false
set_option linter.unusedSimpArgs false
def big4 (x : Int) : List Int := [x / 16777216 % 256, x / 65536 % 256, x / 256 % 256, x % 256]
theorem big4_eq (k : Nat) (x : Int) : octet_Big.f (k + 5) x 4 = some (big4 x) := by
  simp [octet_Big.f, octet_Big.l0, mx, mn, wrap64, shr, big4, List.replicate, IntKind.bits]
theorem w64 (x : Int) (h0 : -9223372036854775808 ≤ x) (h1 : x < 9223372036854775808) : wrap64 x = x := by unfold wrap64; omega
theorem wraps_u64 (n : Int) (h₀ : 0 ≤ n) (h₁ : n < 2 ^ 64) : IntKind.u64.wrap n = n := by rw [IntKind.wrap_u64]; omega
def littleL : Nat → Int → List Int
  | 0, _ => []
  | d + 1, x => x % 256 :: littleL d (x / 256)
theorem littleL_length (d : Nat) (x : Int) : (littleL d x).length = d := by
  induction d generalizing x with
  | zero => rfl
  | succ d ih => rw [littleL, List.length_cons, ih]
theorem little_l (K : Nat) (hK : K ≤ 8) (d : Nat) : ∀ (i : Nat) (acc : List Int) (x : Int), 0 ≤ x → x < 18446744073709551616 → i + d = K → acc.length ≤ 100 + i → ∀ k, nepentheref01_Little.l0 (k + d + 1) x (K : Int) acc (i : Int) = some (acc ++ littleL d x) := by
  induction d with
  | zero =>
    intro i acc x _ _ hi _ k
    obtain rfl : i = K := by omega
    rw [nepentheref01_Little.l0, if_neg (by omega), littleL, List.append_nil]
  | succ d ih =>
    intro i acc x h0 h1 hi ha k
    have e1 : IntKind.u64.wrap (Int.tdiv x 256) = x / 256 := by rw [Int.tdiv_eq_ediv_of_nonneg h0]; exact wraps_u64 _ (by omega) (by omega)
    have e2 : Int.tmod x 256 % 256 = x % 256 := by rw [Int.tmod_eq_emod_of_nonneg h0]; omega
    rw [show k + (d + 1) + 1 = (k + d + 1) + 1 from by omega, nepentheref01_Little.l0, if_pos (by omega), if_pos (by omega), if_pos (by omega), e1, e2, w64 _ (by omega) (by omega)]
    have := ih (i + 1) (acc ++ [x % 256]) (x / 256) (by omega) (by omega) (by omega) (by rw [List.length_append, List.length_singleton]; omega) k
    rw [show ((i + 1 : Nat) : Int) = (i : Int) + 1 from by omega, List.append_assoc] at this
    exact this
theorem little_eq (K : Nat) (hK : K ≤ 8) (x : Int) (h0 : 0 ≤ x) (h1 : x < 18446744073709551616) (k : Nat) : nepentheref01_Little.f (k + 20) x (K : Int) = some (littleL K x) := by
  have := little_l K hK K 0 [] x h0 h1 (by omega) (by simp) (k + 19 - K)
  rw [show k + 19 - K + K + 1 = k + 20 from by omega] at this
  exact this
theorem back_l (l : List Int) (hl : l.length < 140737488355328) (d : Nat) : ∀ k, d ≤ l.length → nepentheref01_Back.l0 (k + d + 1) l ((l.drop d).reverse) ((d : Int) - 1) = some l.reverse := by
  induction d with
  | zero =>
    intro k _
    rw [nepentheref01_Back.l0, if_neg (by omega), List.drop_zero]
  | succ d ih =>
    intro k hd
    have e : rd l ((d : Int)) = l[d]'(by omega) := by
      unfold rd
      rw [Int.toNat_natCast, List.getD_eq_getElem?_getD, List.getElem?_eq_getElem (by omega)]; rfl
    rw [show ((d + 1 : Nat) : Int) - 1 = (d : Int) from by omega, show k + (d + 1) + 1 = (k + d + 1) + 1 from by omega, nepentheref01_Back.l0, if_pos (by omega), if_pos (by omega), if_pos (by omega), if_pos (by simp; omega), w64 _ (by omega) (by omega), e]
    have := ih k (by omega)
    rw [List.drop_eq_getElem_cons (by omega), List.reverse_cons] at this
    exact this
theorem back_eq (l : List Int) (hl : l.length < 140737488355328) (k : Nat) : nepentheref01_Back.f (k + l.length + 1) l = some l.reverse := by
  have := back_l l hl l.length k (Nat.le_refl _)
  rw [List.drop_length] at this
  unfold nepentheref01_Back.f
  rw [w64 _ (by omega) (by omega)]
  exact this
theorem refBig (K : Nat) (hK : K ≤ 8) (x : Int) (h0 : 0 ≤ x) (h1 : x < 18446744073709551616) (k : Nat) : nepentheref01_Big.f (k + 20) x (K : Int) = some (littleL K x).reverse := by
  unfold nepentheref01_Big.f
  rw [little_eq K hK x h0 h1]
  simp only [Option.bind_some]
  have := back_eq (littleL K x) (by rw [littleL_length]; omega) (k + 19 - K)
  rw [littleL_length, show k + 19 - K + K + 1 = k + 20 from by omega] at this
  rw [this]
  rfl
theorem refBig4 (x : Int) (h0 : 0 ≤ x) (h1 : x < 18446744073709551616) (k : Nat) : nepentheref01_Big.f (k + 20) x 4 = some (big4 x) := by
  have := refBig 4 (by decide) x h0 h1 k
  rw [show ((4 : Nat) : Int) = 4 from rfl] at this
  rw [this]
  simp only [littleL, List.reverse_cons, List.reverse_nil, List.nil_append, List.cons_append, big4]
  congr 2
  · omega
  · congr 1; omega

theorem big4_len (x : Int) : (big4 x).length = 4 := rfl
def fit (n : Int) : Prop := 0 ≤ n ∧ n ≤ 4294967295
instance (n : Int) : Decidable (fit n) := by unfold fit; infer_instance
def headL (ns : List Int) (k : Nat) : List Int := ((ns.take k).map big4).flatten
theorem headL_succ (ns : List Int) (k : Nat) (h : k < ns.length) : headL ns (k + 1) = headL ns k ++ big4 (ns.getD k 0) := by
  unfold headL
  rw [List.take_succ_eq_append_getElem h, List.map_append, List.flatten_append, List.getD_eq_getElem?_getD, List.getElem?_eq_getElem h]
  simp
theorem headL_len (ns : List Int) (k : Nat) (h : k ≤ ns.length) : (headL ns k).length = 4 * k := by
  induction k with
  | zero => rfl
  | succ k ih => rw [headL_succ ns k h, List.length_append, ih (by omega), big4_len]; omega
def fits6 (a0 a1 a2 a3 : Int) (P D : List Int) : Prop := (fit a0 ∧ fit a1 ∧ fit a2 ∧ fit a3) ∧ P.length ≤ 1048576 ∧ D.length ≤ 1048576
instance (a0 a1 a2 a3 : Int) (P D : List Int) : Decidable (fits6 a0 a1 a2 a3 P D) := by unfold fits6; infer_instance
def textL (a0 a1 a2 a3 : Int) (P D : List Int) : List Int := headL [a0, a1, a2, a3] 4 ++ big4 P.length ++ P ++ big4 D.length ++ D
theorem wrap_fit {a : Int} (h : fit a) : IntKind.u64.wrap a = a := wraps_u64 a h.1 (by have := h.2; omega)
theorem refBytes_eq (a0 a1 a2 a3 : Int) (P D : List Int) (k : Nat) : nepentheref28_Bytes.f (k + 21) a0 a1 a2 a3 P D = some (if fits6 a0 a1 a2 a3 P D then textL a0 a1 a2 a3 P D else [], decide (fits6 a0 a1 a2 a3 P D)) := by
  have hf : ∀ a, nepentheref28_fits.f a = some (decide (fit a)) := by
    intro a
    by_cases h0 : 0 ≤ a <;> by_cases h1 : a ≤ 4294967295 <;> simp [nepentheref28_fits.f, fit, h0, h1]
  unfold nepentheref28_Bytes.f
  simp only [hf, Option.bind_some]
  by_cases h : fits6 a0 a1 a2 a3 P D
  · obtain ⟨⟨h0, h1, h2, h3⟩, hp, hd⟩ := id h
    have hb : ∀ x, fit x → nepentheref01_Big.f (k + 20) (IntKind.u64.wrap x) 4 = some (big4 x) := fun x hx => by
      rw [wrap_fit hx]; exact refBig4 x hx.1 (by have := hx.2; omega) k
    have hpf : fit (P.length : Int) := ⟨by omega, by omega⟩
    have hdf : fit (D.length : Int) := ⟨by omega, by omega⟩
    rw [if_pos (decide_eq_true h0), if_pos (decide_eq_true h1), if_pos (decide_eq_true h2), if_pos (decide_eq_true h3), if_neg (by omega), decide_eq_false (by omega), nepentheref28_Bytes.j0, if_neg (by decide), hb a0 h0, hb a1 h1, hb a2 h2, hb a3 h3, hb _ hpf, hb _ hdf, if_pos h, decide_eq_true h]
    simp only [Option.bind_some]
    rw [if_pos (by simp only [List.length_append, big4_len]; omega), if_pos (by simp only [List.length_append, big4_len]; omega), if_pos (by simp only [List.length_append, big4_len]; omega), if_pos (by simp only [List.length_append, big4_len]; omega), if_pos (by simp only [List.length_append, big4_len]; omega), if_pos (by simp only [List.length_append, big4_len]; omega), if_pos (by simp only [List.length_append, big4_len]; omega)]
    simp [textL, headL]
  · rw [if_neg h, decide_eq_false h]
    have hj : nepentheref28_Bytes.j0 (k + 21) true a0 a1 a2 a3 P D = some ([], false) := by rw [nepentheref28_Bytes.j0, if_pos rfl]
    simp only [hj]
    unfold fits6 at h
    by_cases h0 : fit a0 <;> by_cases h1 : fit a1 <;> by_cases h2 : fit a2 <;> by_cases h3 : fit a3 <;> simp only [h0, h1, h2, h3, decide_true, decide_false, if_true, if_false, Bool.false_eq_true]
    by_cases hp : P.length ≤ 1048576
    · have hd : ¬ D.length ≤ 1048576 := fun hd => h ⟨⟨h0, h1, h2, h3⟩, hp, hd⟩
      rw [if_neg (by omega), decide_eq_true (by omega), hj]
    · rw [if_pos (by omega)]
end Go.Proofs.Ytiogdomjmjiahaa.Own
