/- MacTags: plain. -/
import Derived.Test.YtoojonapnifjoaaQDx1
import Derived.Test.YtoojonapnifjoaaMb3
namespace Go.Proofs.Ytoojonapnifjoaa.Pure
open Go.RowKit Go.Proofs.Ytoojonapnifjoaa.QB Go.Proofs.Ytoojonapnifjoaa.QD Go.Proofs.Ytoojonapnifjoaa.Own Go.Proofs.YtoojonapnifjoaaW.PrintWords Go.Proofs.YtoojonapnifjoaaW.PrintLast
theorem MacTags : nepenthelaw03_MacTags.Pure := by
  intro l0 l1 _ _ hb0 _ _ hb1
  have ha : nepenthelaw03_awake.f = some true := rfl
  refine ⟨3001, ?_⟩
  unfold nepenthelaw03_MacTags.f
  by_cases h : (l0.length : Int) > 300
  · rw [if_pos h, nepenthelaw03_MacTags.j0, if_pos rfl, ha]; rfl
  · rw [if_neg h]
    by_cases h2 : (l1.length : Int) > 600
    · rw [decide_eq_true h2, nepenthelaw03_MacTags.j0, if_pos rfl, ha]; rfl
    · rw [decide_eq_false h2, nepenthelaw03_MacTags.j0, if_neg (by decide)]
      have e1 : mac_Tag.f l0 l1 = some (tagB (blockL l0) l1) := by unfold mac_Tag.f; rw [if_pos (by omega)]
      have e2 : nepentheref03_Tag.f 3000 l0 l1 = some (tagB (blockL l0) l1) := fixk (f := fun k => nepentheref03_Tag.f k l0 l1) (c := 2000 + l0.length + l1.length) (fun k => by have := refTag_eq l0 l1 (byt_wf hb0) (byt_wf hb1) (by omega) (by omega) k; rw [show k + 2000 + l0.length + l1.length = k + (2000 + l0.length + l1.length) from by omega] at this; exact this) 3000 (by omega)
      have e3 : mac_Block.f l0 = some (blockL l0) := by unfold mac_Block.f; rw [if_pos (by omega)]
      have e4 : nepentheref03_Block.f 3000 l0 = some (blockL l0) := fixk (f := fun k => nepentheref03_Block.f k l0) (c := 600 + l0.length) (fun k => by have := refBlock_eq l0 (byt_wf hb0) (by omega) k; rw [show k + 600 + l0.length = k + (600 + l0.length) from by omega] at this; exact this) 3000 (by omega)
      have e5 : nepentheref01_SameBytes.f 3000 (tagB (blockL l0) l1) (tagB (blockL l0) l1) = some true := fixk (f := fun k => nepentheref01_SameBytes.f k (tagB (blockL l0) l1) (tagB (blockL l0) l1)) (c := 33) (fun k => by have := same_eq (tagB (blockL l0) l1) (by rw [tagB_length]; decide) k; rw [tagB_length] at this; exact this) 3000 (by decide)
      have e6 : nepentheref01_SameBytes.f 3000 (blockL l0) (blockL l0) = some true := fixk (f := fun k => nepentheref01_SameBytes.f k (blockL l0) (blockL l0)) (c := 65) (fun k => by have := same_eq (blockL l0) (by rw [blockL_length]; decide) k; rw [blockL_length] at this; exact this) 3000 (by decide)
      rw [e1, e2]
      simp only [Option.bind_some]
      rw [e5]
      simp only [Option.bind_some]
      rw [if_pos (by first | rfl | trivial), e3, e4]
      simp only [Option.bind_some]
      rw [e6]
      simp only [Option.bind_some]
      rw [if_pos (by first | rfl | trivial), ha]
      rfl
end Go.Proofs.Ytoojonapnifjoaa.Pure
