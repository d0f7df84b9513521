/- ShaCompresses: plain. -/
import Derived.Test.YtoojonapnifjoaaQCx1
import Derived.Test.YtoojonapnifjoaaShR
namespace Go.Proofs.Ytoojonapnifjoaa.Pure
open Go.RowKit Go.Proofs.Ytoojonapnifjoaa.QB Go.Proofs.Ytoojonapnifjoaa.QC Go.Proofs.Ytoojonapnifjoaa.Own Go.Proofs.YtoojonapnifjoaaW.PrintWords Go.Proofs.YtoojonapnifjoaaW.PrintLast
theorem comp_loop (l : List Int) (hl : l.length = 8) (d : Nat) : ∀ j, j + d = 8 → ∀ k, nepenthelaw02_ShaCompresses.l0 (k + d + 1) l l (j : Int) = some true := by
  have ha : nepenthelaw02_awake.f = some true := rfl
  induction d with
  | zero =>
    intro j hj k
    rw [nepenthelaw02_ShaCompresses.l0, if_neg (by omega), ha]
    rfl
  | succ d ih =>
    intro j hj k
    rw [show k + (d + 1) + 1 = (k + d + 1) + 1 from by omega, nepenthelaw02_ShaCompresses.l0, if_pos (by omega), if_pos (by omega), if_pos (by omega), if_pos (by omega), if_pos (by first | rfl | trivial), w64 _ (by omega) (by omega)]
    have := ih (j + 1) (by omega) k
    rw [show ((j + 1 : Nat) : Int) = (j : Int) + 1 from by omega] at this
    exact this
theorem ShaCompresses : nepenthelaw02_ShaCompresses.Pure := by
  intro l0 l1 _ _ hu _ _ hb
  have ha : nepenthelaw02_awake.f = some true := rfl
  refine ⟨301, ?_⟩
  unfold nepenthelaw02_ShaCompresses.f
  by_cases h8 : l0.length = 8
  · by_cases h64 : l1.length = 64
    · have e1 : sha_Compress.f l0 l1 = some (compL l0 l1, 0) := by unfold sha_Compress.f; rw [if_pos ⟨h8, h64⟩]
      have hc := compress_eq l0 l1 (UL_wf hu) h8 (byt_wf hb) h64 100
      have hcl : (compL l0 l1).length = 8 := compL_length _ _ h8
      rw [e1]
      simp only [Option.bind_some]
      rw [if_pos (by omega), show ((l1.length : Int) != 64) = false from by rw [h64]; rfl, nepenthelaw02_ShaCompresses.j0, if_neg (by decide), hc]
      simp only [Option.bind_some]
      rw [if_pos (by first | rfl | trivial), show (((compL l0 l1).length : Int) != 8) = false from by rw [hcl]; rfl, show (300 : Nat) = 299 + 1 from rfl, nepenthelaw02_ShaCompresses.j1, if_neg (by decide)]
      exact comp_loop _ hcl 8 0 (by omega) 290
    · have e1 : sha_Compress.f l0 l1 = some ([], 2) := by unfold sha_Compress.f; rw [if_neg (by omega)]
      rw [e1]
      simp only [Option.bind_some]
      rw [if_pos (by omega), show ((l1.length : Int) != 64) = true from by simp; omega, nepenthelaw02_ShaCompresses.j0, if_pos (by first | rfl | trivial), if_pos (by first | rfl | trivial), if_pos (by first | rfl | trivial), ha]
      rfl
  · have e1 : sha_Compress.f l0 l1 = some ([], 2) := by unfold sha_Compress.f; rw [if_neg (by omega)]
    rw [e1]
    simp only [Option.bind_some]
    rw [if_neg (by omega), nepenthelaw02_ShaCompresses.j0, if_pos (by first | rfl | trivial), if_pos (by first | rfl | trivial), if_pos (by first | rfl | trivial), ha]
    rfl
end Go.Proofs.Ytoojonapnifjoaa.Pure
