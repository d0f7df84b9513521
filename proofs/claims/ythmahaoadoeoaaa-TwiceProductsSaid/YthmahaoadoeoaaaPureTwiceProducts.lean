/- The plain statement of TwiceProducts: any two's product, or why there is none; doubling is a product with x. -/
import Derived.Test.YthmahaoadoeoaaaQx5
import Derived.Test.YthmahaoadoeoaaaTwM
namespace Go.Proofs.Ythmahaoadoeoaaa.Pure
open Go.RowKit Go.Proofs.Ythmahaoadoeoaaa.Q Go.Proofs.YthmahaoadoeoaaaW.PrintWords Go.Proofs.YthmahaoadoeoaaaW.PrintLast Go.Proofs.Ythmahaoadoeoaaa.Core Go.Proofs.Ythmahaoadoeoaaa.Own Go.Proofs.Ythmahaoadoeoaaa.Tw
theorem two_bys : (List.replicate 16 (0 : Int)).set 0 2 = bys 2#128 := by decide +kernel
theorem TwiceProducts : nepenthelaw08_TwiceProducts.Pure := by
  intro l0 l1 _ _ hw0 _ _ hw1
  suffices H : ∀ k, 20000 < k → nepenthelaw08_TwiceProducts.f k l0 l1 = some true from ⟨20001, H _ (by decide)⟩
  intro k hk
  obtain ⟨k, rfl⟩ : ∃ m, k = m + 1 := ⟨k - 1, by omega⟩
  unfold nepenthelaw08_TwiceProducts.f
  by_cases hc : l0.length = 16 ∧ l1.length = 16
  · obtain ⟨h0, h1⟩ := hc
    obtain ⟨a, rfl⟩ := bys_of l0 h0 hw0
    obtain ⟨b, rfl⟩ := bys_of l1 h1 hw1
    rw [mul_own]
    simp only [Option.bind_some]
    have hne : (((bys b).length : Int) != 16) = false := by rw [bys_length]; rfl
    rw [if_pos (by rw [bys_length]; rfl), hne]
    simp only [nepenthelaw08_TwiceProducts.j0]
    rw [if_neg (by decide), if_pos (by decide)]
    simp only [Option.bind_some]
    rw [if_pos (by simp), double_own, show (0 : Int).toNat = 0 from rfl, two_bys, mul_own]
    simp only [Option.bind_some]
    rw [if_pos trivial, if_pos trivial, if_pos trivial, mul_ref k (by omega)]
    simp only [Option.bind_some]
    rw [same_eq _ _ _ (by rw [bys_length]; decide) (by rw [bys_length]; omega)]
    simp only [decide_true, Option.bind_some]
    rw [if_pos trivial, same_eq _ _ _ (by rw [bys_length]; decide) (by rw [bys_length]; omega)]
    have e : mul P128 a 2#128 = dbl P128 a := by
      rw [show (2#128 : BitVec 128) = dbl P128 1#128 from by decide, mul_dbl_right, mul_one]
    rw [e]
    simp only [decide_true, Option.bind_some]
    rw [if_pos trivial, awake_eq]; rfl
  · have ht : twice_Mul.f l0 l1 = some ([], 2) := by
      unfold twice_Mul.f; rw [if_neg hc]
    rw [ht]
    simp only [Option.bind_some]
    have hj : nepenthelaw08_TwiceProducts.j0 (k + 1) l0 l1 [] 2 true = some true := by
      simp only [nepenthelaw08_TwiceProducts.j0]
      rw [if_pos trivial, if_pos trivial, if_pos (by simp), awake_eq]; rfl
    by_cases h0 : l0.length = 16
    · have hne : ((l1.length : Int) != 16) = true := by simp; omega
      rw [if_pos (by omega), hne]; exact hj
    · rw [if_neg (by omega)]; exact hj
end Go.Proofs.Ythmahaoadoeoaaa.Pure
