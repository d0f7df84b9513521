/- ShaSums: plain. -/
import Derived.Test.YtoojonapnifjoaaQCx1
import Derived.Test.YtoojonapnifjoaaShR
namespace Go.Proofs.Ytoojonapnifjoaa.Pure
open Go.RowKit Go.Proofs.Ytoojonapnifjoaa.QB Go.Proofs.Ytoojonapnifjoaa.QC Go.Proofs.Ytoojonapnifjoaa.Own Go.Proofs.YtoojonapnifjoaaW.PrintWords Go.Proofs.YtoojonapnifjoaaW.PrintLast
theorem ShaSums : nepenthelaw02_ShaSums.Pure := by
  intro l0 _ _ hb
  by_cases h : (l0.length : Int) > 3000
  · refine ⟨0, ?_⟩
    unfold nepenthelaw02_ShaSums.f
    rw [if_pos h]
    rfl
  · refine ⟨0 + 400 + (l0.length + 400) + l0.length, ?_⟩
    have hl : l0.length ≤ 1099511627776 := by omega
    have e1 : sha_Sum.f l0 = some (sumL l0) := by unfold sha_Sum.f; rw [if_pos hl]
    have e2 : sha_Pad.f l0 = some (l0 ++ tailL l0.length) := by unfold sha_Pad.f; rw [if_pos hl]
    have hs := sum_eq l0 (byt_wf hb) hl (0 + (l0.length + 400))
    rw [show 0 + (l0.length + 400) + 400 + l0.length = 0 + 400 + (l0.length + 400) + l0.length from by omega] at hs
    have hp := pad_eq l0 hl (0 + 200 + (l0.length + 400) + l0.length)
    rw [show 0 + 200 + (l0.length + 400) + l0.length + 200 = 0 + 400 + (l0.length + 400) + l0.length from by omega] at hp
    have hq1 := same_eq (sumL l0) (by rw [sumL_length]; omega) (0 + 400 + (l0.length + 400) + l0.length - 33)
    rw [sumL_length, show 0 + 400 + (l0.length + 400) + l0.length - 33 + 32 + 1 = 0 + 400 + (l0.length + 400) + l0.length from by omega] at hq1
    have htl := tail_length l0.length
    have hz := zerosN_lt l0.length
    have hq2 := same_eq (l0 ++ tailL l0.length) (by rw [List.length_append]; omega) (0 + 400 + (l0.length + 400) + l0.length - (l0 ++ tailL l0.length).length - 1)
    rw [show 0 + 400 + (l0.length + 400) + l0.length - (l0 ++ tailL l0.length).length - 1 + (l0 ++ tailL l0.length).length + 1 = 0 + 400 + (l0.length + 400) + l0.length from by rw [List.length_append]; omega] at hq2
    have ha : nepenthelaw02_awake.f = some true := rfl
    unfold nepenthelaw02_ShaSums.f
    rw [if_neg h, e1, hs]
    simp only [Option.bind_some]
    rw [hq1]
    simp only [Option.bind_some]
    rw [if_pos (by first | rfl | trivial), e2, hp]
    simp only [Option.bind_some]
    rw [hq2]
    simp only [Option.bind_some]
    rw [if_pos (by first | rfl | trivial), ha]
    rfl
end Go.Proofs.Ytoojonapnifjoaa.Pure
