/- MacBlocks: plain. -/
import Derived.Test.YtoojonapnifjoaaQDx1
import Derived.Test.YtoojonapnifjoaaMb3
namespace Go.Proofs.Ytoojonapnifjoaa.Pure
open Go.RowKit Go.Proofs.Ytoojonapnifjoaa.QB Go.Proofs.Ytoojonapnifjoaa.QD Go.Proofs.Ytoojonapnifjoaa.Own Go.Proofs.YtoojonapnifjoaaW.PrintWords Go.Proofs.YtoojonapnifjoaaW.PrintLast
theorem MacBlocks : nepenthelaw03_MacBlocks.Pure := by
  intro l0 l1 _ _ hb0 _ _ hb1
  have ha : nepenthelaw03_awake.f = some true := rfl
  refine ⟨3001, ?_⟩
  unfold nepenthelaw03_MacBlocks.f
  by_cases h : (l0.length : Int) > 64
  · rw [if_pos h, nepenthelaw03_MacBlocks.j0, if_pos rfl, ha]; rfl
  · rw [if_neg h]
    by_cases h2 : (l1.length : Int) > 600
    · rw [decide_eq_true h2, nepenthelaw03_MacBlocks.j0, if_pos rfl, ha]; rfl
    · rw [decide_eq_false h2, nepenthelaw03_MacBlocks.j0, if_neg (by decide)]
      have e1 : mac_Tag.f l0 l1 = some (tagB (blockL l0) l1) := by unfold mac_Tag.f; rw [if_pos (by omega)]
      have e2 : mac_Tag.f (blockL l0) l1 = some (tagB (blockL l0) l1) := by unfold mac_Tag.f; rw [if_pos (by rw [blockL_length]; omega), blockL_block l0 (by omega)]
      have e3 : mac_Block.f l0 = some (blockL l0) := by unfold mac_Block.f; rw [if_pos (by omega)]
      have e5 : nepentheref01_SameBytes.f 3000 (tagB (blockL l0) l1) (tagB (blockL l0) l1) = some true := fixk (f := fun k => nepentheref01_SameBytes.f k (tagB (blockL l0) l1) (tagB (blockL l0) l1)) (c := 33) (fun k => by have := same_eq (tagB (blockL l0) l1) (by rw [tagB_length]; decide) k; rw [tagB_length] at this; exact this) 3000 (by decide)
      rw [e1, e3]
      simp only [Option.bind_some]
      rw [e2]
      simp only [Option.bind_some]
      rw [e5]
      simp only [Option.bind_some]
      rw [if_pos (by first | rfl | trivial), ha]
      rfl
end Go.Proofs.Ytoojonapnifjoaa.Pure
