/- Written by a program of this session (mkprint2.py) out of the translation: what functions that the laws reach answer, in plain Lean, and that the code answers so. No condition. -/
import Derived.Test.YtiogdomjmjiahaaQBx0
import Derived.Test.YtiogdomjmjiahaaCmA
import Derived.Test.YtiogdomjmjiahaaCmW
import Derived.Test.YtiogdomjmjiahaaQAx1
namespace Go.Proofs.Ytiogdomjmjiahaa.Own
end Go.Proofs.Ytiogdomjmjiahaa.Own
namespace Go.Proofs.Ytiogdomjmjiahaa.QA
end Go.Proofs.Ytiogdomjmjiahaa.QA
namespace Go.Proofs.Ytiogdomjmjiahaa.QB
open Go.RowKit Go.Proofs.Ytiogdomjmjiahaa.Own Go.Proofs.Ytiogdomjmjiahaa.QA Go.Proofs.YtiogdomjmjiahaaW.PrintWords Go.Proofs.YtiogdomjmjiahaaW.PrintLast Go.Proofs.YtiogdomjmjiahaaW.PrintMore
attribute [local go_sem] max2_int min2_int max_two min_two max_three min_three max_four min_four   -- for this text's walks alone
set_option linter.unusedVariables false
set_option linter.unusedSimpArgs false

-- told elsewhere: function 13 (command_Name)

-- told elsewhere: function 14 (nepentheref28_Name)

-- told elsewhere: function 56 (octet_Big)

-- NOT PRINTED: function 17 (command_Bytes)

-- told elsewhere: function 15 (nepenthelaw28_awake)

/-! ### nepenthelaw28_CommandNames: function 3 -/
def nepenthelaw28_CommandNames.f (a0 : Int) : Option (Bool) := (command_Name.f a0).bind fun t102 => ((nepentheref28_Name.f a0).bind fun t103 => (if t102.toList = t103.toList then ((nepenthelaw28_awake.f).bind fun t104 => (some t104)) else (some false)))
set_option maxHeartbeats 8000000 in
set_option maxRecDepth 100000 in
theorem nepenthelaw28_CommandNames.calls (a0 : Int) (r : Bool) (w : World) (h : nepenthelaw28_CommandNames.f a0 = some r) :
    Calls Try.prog 3 #[.int .i64 a0] w fun e w' => e = .returned (.bool r) ∧ Below w.heap.size w w' := by
  have HB := Aside0.mk (Below.refl w.heap.size w)
  have H : ((command_Name.f a0).bind fun t102 => ((nepentheref28_Name.f a0).bind fun t103 => (if t102.toList = t103.toList then ((nepenthelaw28_awake.f).bind fun t104 => (some t104)) else (some false)))) = some r := h
  clear h
  replace H := Option.bind_eq_some_iff.mp H
  obtain ⟨t102, A20, H⟩ := H
  replace H : ((nepentheref28_Name.f a0).bind fun t103 => (if t102.toList = t103.toList then ((nepenthelaw28_awake.f).bind fun t104 => (some t104)) else (some false))) = some r := H
  have A2 := Aside0.mk A20
  clear A20
  replace H := Option.bind_eq_some_iff.mp H
  obtain ⟨t103, A30, H⟩ := H
  replace H : (if t102.toList = t103.toList then ((nepenthelaw28_awake.f).bind fun t104 => (some t104)) else (some false)) = some r := H
  have A3 := Aside0.mk A30
  clear A30
  by_cases c4 : t102.toList = t103.toList
  · rw [if_pos c4] at H
    have c4b0 : (t102.toList == t103.toList) = true := beq_iff_eq.mpr c4
    have c4b1 : (t102.toList != t103.toList) = false := bne_eq_false_iff_eq.mpr c4
    clear c4
    replace H := Option.bind_eq_some_iff.mp H
    obtain ⟨t104, A50, H⟩ := H
    replace H : (some t104) = some r := H
    have A5 := Aside0.mk A50
    clear A50
    obtain rfl := Option.some.inj H
    go_enter Try.func3, Try.ntmps3
    go_wp2_with (first | ((with_reducible refine gate_callee (f := 13) rfl ?_); refine goesL_ (some 4) rfl rfl Try.func13 (by kernel_rfl) rfl #[.int .i64 a0] rfl (by (try simp only [List.map_toArray, List.map_cons, List.map_nil]); first | done | rfl | (simp only [List.length_drop, List.length_take]; rfl)) ?_; (with_reducible refine (command_Name.calls a0 t102 _ A2.out).mono ?_); rintro e w' ⟨rfl, ⟨nd, rfl⟩⟩; refine ⟨_, rfl, ?_⟩) | ((with_reducible refine gate_callee (f := 14) rfl ?_); refine goesL_ (some 6) rfl rfl Try.func14 (by kernel_rfl) rfl #[.int .i64 a0] rfl (by (try simp only [List.map_toArray, List.map_cons, List.map_nil]); first | done | rfl | (simp only [List.length_drop, List.length_take]; rfl)) ?_; (with_reducible refine (nepentheref28_Name.calls a0 t103 _ A3.out).mono ?_); rintro e w6 ⟨rfl, hb⟩; refine ⟨_, rfl, ?_⟩; have n0_ := Aside0.mk (below_step (by repeat (first | (with_reducible first | exact HB.out | apply below_alloc | apply pw_below_drewN | apply below_drew1) | exact HB.out)) hb); clear HB; have HB := n0_; clear n0_; (try clear hb); (try clear hb2); (try clear hk); (try clear hi)) | (go_at_call 15; (with_reducible refine (nepenthelaw28_awake.calls  t104 _ A5.out).mono ?_); rintro e w7 ⟨rfl, hb⟩; have n0_ := Aside0.mk (below_step (by repeat (first | (with_reducible first | exact HB.out | apply below_alloc | apply pw_below_drewN | apply below_drew1) | exact HB.out)) hb); clear HB; have HB := n0_; clear n0_; (try clear hb); (try clear hb2); (try clear hk); (try clear hi)))
    go_ret
    exact ⟨by first | rfl | (simp [errW_none, errW_some] <;> rfl) | (simp [*, errW_none, errW_some] <;> rfl), by repeat (first | (with_reducible first | exact HB.out | apply below_alloc | apply pw_below_drewN | apply below_drew1) | exact HB.out)⟩
  · rw [if_neg c4] at H
    have c4b0 : (t102.toList == t103.toList) = false := beq_eq_false_iff_ne.mpr c4
    have c4b1 : (t102.toList != t103.toList) = true := bne_iff_ne.mpr c4
    obtain rfl := Option.some.inj H
    go_enter Try.func3, Try.ntmps3
    go_wp2_with (first | ((with_reducible refine gate_callee (f := 13) rfl ?_); refine goesL_ (some 4) rfl rfl Try.func13 (by kernel_rfl) rfl #[.int .i64 a0] rfl (by (try simp only [List.map_toArray, List.map_cons, List.map_nil]); first | done | rfl | (simp only [List.length_drop, List.length_take]; rfl)) ?_; (with_reducible refine (command_Name.calls a0 t102 _ A2.out).mono ?_); rintro e w' ⟨rfl, ⟨nd, rfl⟩⟩; refine ⟨_, rfl, ?_⟩) | ((with_reducible refine gate_callee (f := 14) rfl ?_); refine goesL_ (some 6) rfl rfl Try.func14 (by kernel_rfl) rfl #[.int .i64 a0] rfl (by (try simp only [List.map_toArray, List.map_cons, List.map_nil]); first | done | rfl | (simp only [List.length_drop, List.length_take]; rfl)) ?_; (with_reducible refine (nepentheref28_Name.calls a0 t103 _ A3.out).mono ?_); rintro e w8 ⟨rfl, hb⟩; refine ⟨_, rfl, ?_⟩; have n0_ := Aside0.mk (below_step (by repeat (first | (with_reducible first | exact HB.out | apply below_alloc | apply pw_below_drewN | apply below_drew1) | exact HB.out)) hb); clear HB; have HB := n0_; clear n0_; (try clear hb); (try clear hb2); (try clear hk); (try clear hi)))
    go_ret
    exact ⟨by first | rfl | (simp [errW_none, errW_some] <;> rfl) | (simp [*, errW_none, errW_some] <;> rfl), by repeat (first | (with_reducible first | exact HB.out | apply below_alloc | apply pw_below_drewN | apply below_drew1) | exact HB.out)⟩

/-- THE ONE PURE STATEMENT of nepenthelaw28_CommandNames: yours. -/
def nepenthelaw28_CommandNames.Pure : Prop := ∀ (a0 : Int), (Lit.int .i64 a0).wf = true → nepenthelaw28_CommandNames.f a0 = some true
theorem nepenthelaw28_CommandNames.walk (P : nepenthelaw28_CommandNames.Pure) (a0 : Int) (w : World) (w0 : (Lit.int .i64 a0).wf = true) :
    Calls Try.prog 3 #[.int .i64 a0] w fun e w' => e = .returned (.bool true) ∧ Below w.heap.size w w' := by
  have h := P a0 w0
  refine (nepenthelaw28_CommandNames.calls a0 true w h).mono ?_
  rintro e w' ⟨rfl, hd⟩
  exact ⟨rfl, hd⟩

end Go.Proofs.Ytiogdomjmjiahaa.QB
