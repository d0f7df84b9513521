/- OpC, pruned (slim.py). -/
import Derived.Test.YtiogdomjmjiahaaZC36
import Derived.Test.YtiogdomjmjiahaaProg
import Derived.KernelRfl
namespace Go.Proofs.Ytiogdomjmjiahaa.Opz
open Go.RowKit Go.Proofs.YtiogdomjmjiahaaW.PrintWords
set_option linter.unusedVariables false
abbrev CmdT := Int × Int × Int × Int × List Int × List Int
def CmdK (w : World) (x : CmdT) (cs : List Value) : Prop :=
  ∃ A ca B cb, cs = [.int .i64 x.1, .int .i64 x.2.1, .int .i64 x.2.2.1, .int .i64 x.2.2.2.1, .slice A x.2.2.2.2.1.length ca, .slice B x.2.2.2.2.2.length cb] ∧ Kd.C (Kd.int .u8) w A x.2.2.2.2.1.length x.2.2.2.2.1 ∧ x.2.2.2.2.1.length ≤ ca ∧ Kd.C (Kd.int .u8) w B x.2.2.2.2.2.length x.2.2.2.2.2 ∧ x.2.2.2.2.2.length ≤ cb
def CmdWf (x : CmdT) : Prop := ((Lit.int .i64 x.1).wf = true ∧ (Lit.int .i64 x.2.1).wf = true ∧ (Lit.int .i64 x.2.2.1).wf = true ∧ (Lit.int .i64 x.2.2.2.1).wf = true) ∧ (x.2.2.2.2.1.length ≤ 140737488351232 ∧ ∀ b ∈ x.2.2.2.2.1, (Lit.int .u8 b).wf = true) ∧ (x.2.2.2.2.2.length ≤ 140737488351232 ∧ ∀ b ∈ x.2.2.2.2.2, (Lit.int .u8 b).wf = true)
abbrev IntK : World → Int → List Value → Prop := (Kd.int .i64).K
abbrev IntW : Int → Prop := fun n => (Lit.int .i64 n).wf = true
abbrev BytK : World → List Int → List Value → Prop := (Kd.slice 5 (Kd.int .u8)).K
abbrev BytW : List Int → Prop := fun xs => xs.length ≤ 140737488351232 ∧ ∀ x ∈ xs, (Lit.int .u8 x).wf = true
abbrev PairK {α β : Type} (K : World → α → List Value → Prop) (K' : World → β → List Value → Prop) : World → α × β → List Value → Prop := fun w x cs => ∃ c0 c1, cs = c0 ++ c1 ∧ K w x.1 c0 ∧ K' w x.2 c1
abbrev PairW {α β : Type} (W : α → Prop) (W' : β → Prop) : α × β → Prop := fun x => W x.1 ∧ W' x.2
def fC0 : Field := { name := "Kind", type := 3, offset := 0, embedded := false, tag := "", pkgPath := "", byteOffset := 0 }
def fC1 : Field := { name := "Ns", type := 3, offset := 1, embedded := false, tag := "", pkgPath := "", byteOffset := 8 }
def fC2 : Field := { name := "Lba", type := 3, offset := 2, embedded := false, tag := "", pkgPath := "", byteOffset := 16 }
def fC3 : Field := { name := "Count", type := 3, offset := 3, embedded := false, tag := "", pkgPath := "", byteOffset := 24 }
def fC4 : Field := { name := "Pass", type := 25, offset := 4, embedded := false, tag := "", pkgPath := "", byteOffset := 32 }
def fC5 : Field := { name := "Data", type := 25, offset := 5, embedded := false, tag := "", pkgPath := "", byteOffset := 56 }
theorem opens27 : Opens Try.prog 27 CmdK CmdWf := by
  have hb : Opens Try.prog 25 BytK BytW := opens_slice (q := 5) (d := (Kd.int .u8)) (P := Try.prog) Try.underlying25 (by kernel_rfl) (by kernel_rfl) (opens_int Try.underlying5)
  have hi : Opens Try.prog 3 IntK IntW := opens_int (P := Try.prog) (k := .i64) Try.underlying3
  have f5 : FOpen Try.prog [fC5] 5 6 BytK BytW := fopen_one rfl (by kernel_rfl) hb
  have f4 : FOpen Try.prog [fC4, fC5] 4 6 (PairK BytK BytK) (PairW BytW BytW) := fopen_cons rfl (by kernel_rfl) hb f5
  have f3 : FOpen Try.prog [fC3, fC4, fC5] 3 6 (PairK IntK (PairK BytK BytK)) (PairW IntW (PairW BytW BytW)) := fopen_cons rfl (by kernel_rfl) hi f4
  have f2 : FOpen Try.prog [fC2, fC3, fC4, fC5] 2 6 (PairK IntK (PairK IntK (PairK BytK BytK))) (PairW IntW (PairW IntW (PairW BytW BytW))) := fopen_cons rfl (by kernel_rfl) hi f3
  have f1 : FOpen Try.prog [fC1, fC2, fC3, fC4, fC5] 1 6 (PairK IntK (PairK IntK (PairK IntK (PairK BytK BytK)))) (PairW IntW (PairW IntW (PairW IntW (PairW BytW BytW)))) := fopen_cons rfl (by kernel_rfl) hi f2
  have f0 : FOpen Try.prog [fC0, fC1, fC2, fC3, fC4, fC5] 0 6 (PairK IntK (PairK IntK (PairK IntK (PairK IntK (PairK BytK BytK))))) (PairW IntW (PairW IntW (PairW IntW (PairW IntW (PairW BytW BytW))))) := fopen_cons rfl (by kernel_rfl) hi f1
  have hs : Opens Try.prog 27 (PairK IntK (PairK IntK (PairK IntK (PairK IntK (PairK BytK BytK))))) (PairW IntW (PairW IntW (PairW IntW (PairW IntW (PairW BytW BytW))))) := opens_struct (fs := #[fC0, fC1, fC2, fC3, fC4, fC5]) (total := 6) Try.underlying27 (by kernel_rfl) f0
  have h1 : ∀ w a cs, (PairK IntK (PairK IntK (PairK IntK (PairK IntK (PairK BytK BytK))))) w a cs → CmdK w a cs := by
    rintro w ⟨a0, a1, a2, a3, P, D⟩ cs ⟨c0, r0, rfl, h0, c1, r1, rfl, h1, c2, r2, rfl, h2, c3, r3, rfl, h3, c4, r4, rfl, ⟨A, ca, h4, hca, hA⟩, B, cb, h5, hcb, hB⟩
    have e0 : c0 = [.int .i64 a0] := h0
    have e1 : c1 = [.int .i64 a1] := h1
    have e2 : c2 = [.int .i64 a2] := h2
    have e3 : c3 = [.int .i64 a3] := h3
    have e4 : c4 = [.slice A P.length ca] := h4
    have e5 : r4 = [.slice B D.length cb] := h5
    subst e0 e1 e2 e3 e4 e5
    exact ⟨A, ca, B, cb, rfl, hA, hca, hB, hcb⟩
  have h2 : ∀ a, (PairW IntW (PairW IntW (PairW IntW (PairW IntW (PairW BytW BytW))))) a → CmdWf a := by
    rintro ⟨a0, a1, a2, a3, P, D⟩ ⟨h0, h1, h2, h3, h4, h5⟩
    exact ⟨⟨h0, h1, h2, h3⟩, h4, h5⟩
  intro H enc sp held w base fuel cs x hx hz
  obtain ⟨a, ha, hw⟩ := hs enc sp held w base fuel cs x hx hz
  exact ⟨a, h1 _ _ _ ha, h2 _ hw⟩
end Go.Proofs.Ytiogdomjmjiahaa.Opz
