/- LwEv, pruned (slim.py). -/
import Derived.Test.YtiogdomjmjiahaaZE35
import Derived.Test.YtiogdomjmjiahaaZE37
namespace Go.Proofs.Ytiogdomjmjiahaa.Own
open Go.RowKit Go.Proofs.Ytiogdomjmjiahaa.Arr Go.Proofs.Ytiogdomjmjiahaa.QA Go.Proofs.Ytiogdomjmjiahaa.QB Go.Proofs.Ytiogdomjmjiahaa.QC Go.Proofs.YtiogdomjmjiahaaW.PrintWords Go.Proofs.YtiogdomjmjiahaaW.PrintLast Go.Proofs.YtiogdomjmjiahaaW.PrintMore
set_option linter.unusedVariables false
set_option linter.unusedSimpArgs false
theorem C_map {α β : Type} {d : Kd α} {d' : Kd β} (f : α → β) {w : World} {A : Option Addr} {xs : List α} (hs : d.sz = d'.sz) (hK : ∀ x cs, d.K w x cs → d'.K w (f x) cs) (h : Kd.C d w A xs.length xs) : Kd.C d' w A (xs.map f).length (xs.map f) := by
  obtain ⟨h1, h2, h3⟩ := h
  refine ⟨rfl, by rw [List.length_map]; exact h2, fun hn => ?_⟩
  rw [List.length_map] at hn
  obtain ⟨ad, hA, hc⟩ := h3 hn
  refine ⟨ad, hA, fun j p hj => ?_⟩
  rw [List.getElem?_map] at hj
  cases hx : xs[j]? with
  | none => rw [hx] at hj; cases hj
  | some x =>
    rw [hx] at hj
    obtain rfl : f x = p := by simpa using hj
    obtain ⟨c, h4, h5, h6⟩ := hc j x hx
    exact ⟨c, by rw [h4, hs], hK x c h5, fun i u hu => by rw [← hs]; exact h6 i u hu⟩
theorem byt_of_wf {x : Int} (h : (Lit.int .u8 x).wf = true) : byt x := by
  simp [Lit.wf, IntKind.min, IntKind.max, IntKind.signed, IntKind.bits] at h
  exact ⟨by omega, by omega⟩
theorem i64_of_wf {x : Int} (h : (Lit.int .i64 x).wf = true) : -9223372036854775808 ≤ x ∧ x < 9223372036854775808 := by
  simp [Lit.wf, IntKind.min, IntKind.max, IntKind.signed, IntKind.bits] at h
  exact ⟨by omega, by omega⟩
def evOf (x : Opz.T94) : EvT := ⟨⟨x.1.1, x.1.2⟩, x.2.1, x.2.2.1, x.2.2.2.1, x.2.2.2.2.1, x.2.2.2.2.2⟩
theorem ConsoleEvents_walk (w : World) (A : Option Addr) (c : Nat) (xs : List Opz.T94) (hc : xs.length ≤ c) (hC : Opz.kd94.C w A xs.length xs) (hw : xs.length ≤ 140737488351232 ∧ ∀ x ∈ xs, Opz.W94 x) :
    Calls Try.prog 11 #[.slice A xs.length c] w fun e w' => e = .returned (.bool true) ∧ Below w.heap.size w w' := by
  have hC2 := C_map (d' := evK) evOf (by rfl) (fun x cs h => h) hC
  have := Go.Proofs.Ytiogdomjmjiahaa.QE.nepenthelaw35_ConsoleEvents.calls 100 A c (xs.map evOf) true w hC2 (by rw [List.length_map]; exact hc) (ev_law _ (fun x hx => by
    obtain ⟨y, hy, rfl⟩ := List.mem_map.1 hx
    have hz := hw.2 y hy
    exact ⟨fun b hb => byt_of_wf (hz.1.2.2 b hb), i64_of_wf hz.2.1⟩))
  rw [List.length_map] at this
  exact this
end Go.Proofs.Ytiogdomjmjiahaa.Own
