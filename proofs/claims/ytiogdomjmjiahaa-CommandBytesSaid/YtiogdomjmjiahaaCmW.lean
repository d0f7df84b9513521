/- nepenthelaw28.awake, walked. -/
import Derived.Test.YtiogdomjmjiahaaCmB
namespace Go.Proofs.Ytiogdomjmjiahaa.Own
open Go.RowKit Go.Proofs.Ytiogdomjmjiahaa.Arr Go.Proofs.Ytiogdomjmjiahaa.QA Go.Proofs.YtiogdomjmjiahaaW.PrintWords Go.Proofs.YtiogdomjmjiahaaW.PrintLast Go.Proofs.YtiogdomjmjiahaaW.PrintMore
set_option linter.unusedVariables false
set_option linter.unusedSimpArgs false
theorem builtC : Try.prog.built 27 (#[(0, .int .i64 6), (1, .int .i64 1), (2, .int .i64 5), (3, .int .i64 2)] : Array (Nat × Value)).toList = some #[.int .i64 6, .int .i64 1, .int .i64 5, .int .i64 2, .slice none 0 0, .slice none 0 0] := by kernel_rfl
theorem awake_text : textL 6 1 5 2 [] [] = [0, 0, 0, 6, 0, 0, 0, 1, 0, 0, 0, 5, 0, 0, 0, 2, 0, 0, 0, 0, 0, 0, 0, 0] := by decide +kernel
theorem awake_fits : fits6 6 1 5 2 [] [] := by decide
def nepenthelaw28_awake.f : Option Bool := some true
set_option maxHeartbeats 2000000 in
set_option maxRecDepth 100000 in
theorem lawAwake (w : World) : Calls Try.prog 15 #[] w fun e w' => e = .returned (.bool true) ∧ Below w.heap.size w w' := by
  have hb : ∀ W : World, (Instr.build 27 #[(0, .int .i64 6), (1, .int .i64 1), (2, .int .i64 5), (3, .int .i64 2)]).run Try.prog W = .ok (.agg #[.int .i64 6, .int .i64 1, .int .i64 5, .int .i64 2, .slice none 0 0, .slice none 0 0]) W := fun W => run_build W _ _ _ builtC
  have hby : ∀ w1 : World, Calls Try.prog 17 #[.agg #[.int .i64 6, .int .i64 1, .int .i64 5, .int .i64 2, .slice none 0 0, .slice none 0 0]] w1 fun e w' =>
      ∃ v : Value, e = .returned (.tuple #[v, .int .i64 0]) ∧ Kd.R (Kd.int .u8) 5 w' w1.heap.size (fun _ => True) v [0, 0, 0, 6, 0, 0, 0, 1, 0, 0, 0, 5, 0, 0, 0, 2, 0, 0, 0, 0, 0, 0, 0, 0] ∧ Below w1.heap.size w1 w' := fun w1 => by
    have h := bytes_any 6 1 5 2 none 0 [] none 0 [] w1 (Kd.C_nil _ _) (by simp) (Kd.C_nil _ _) (by simp) (by simp) (by simp)
    rw [if_pos awake_fits, if_pos awake_fits, awake_text] at h
    exact h
  obtain ⟨L, hL⟩ : ∃ L : List Int, L = [0, 0, 0, 6, 0, 0, 0, 1, 0, 0, 0, 5, 0, 0, 0, 2, 0, 0, 0, 0, 0, 0, 0, 0] := ⟨_, rfl⟩
  have hl : L.length = 24 := by rw [hL]; rfl
  have h11 : L.getD 11 0 = 5 := by rw [hL]; rfl
  rw [← hL] at hby
  have hby' := Lib.hid hby
  have hl' := Lib.hid hl
  have h11' := Lib.hid h11
  have hn7 := name_7
  clear hby hl hL h11
  go_enter Try.func15, Try.ntmps15
  go_wp2_with (first
    | (go_at_call 17; refine (hby'.out _).mono ?_; rintro e w1 ⟨v, rfl, hR, hb1⟩; have hb1' := Lib.hid hb1; obtain ⟨Ad, cd, rfl⟩ := Kd.R_slice hR; have hC := (Kd.R_reads' hR).2.2; obtain ⟨b, o, rfl, hr⟩ := C_range hC (by rw [hl'.out]; decide); have hc11 := C_cell hr 11 (by rw [hl'.out]; decide); rw [h11'.out] at hc11; rw [hl'.out]; clear hR hb1 hC hr)
    | (go_at_call 13; refine (hn7 _).mono ?_; rintro e w2 ⟨rfl, hd⟩; have hb2 := Lib.hid (below_step hb1'.out hd.below); clear hd))
  go_ret
  exact ⟨rfl, hb2.out⟩
theorem nepenthelaw28_awake.calls (r : Bool) (w : World) (h : nepenthelaw28_awake.f = some r) :
    Calls Try.prog 15 #[] w fun e w' => e = .returned (.bool r) ∧ Below w.heap.size w w' := by
  obtain rfl := Option.some.inj h
  exact lawAwake w
end Go.Proofs.Ytiogdomjmjiahaa.Own
