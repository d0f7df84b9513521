/- The law FieldRules: the products of any three bytes are commutative, associative and distributive; 1 changes nothing. No condition. -/
import Derived.Test.YthmahaoadoeoaaaRows
import Derived.Test.YthmahaoadoeoaaaPureFieldProducts
import Derived.WalkKit
import Derived.ProofKit
import Derived.OpenShut
import Derived.ShutString
import Derived.ChangeOld
import Derived.Below
import Derived.SizedLaws
namespace Go.Proofs.Ythmahaoadoeoaaa.fieldRules
open Go.ChangeShapes Go.WideShapes Go.ChangeAt Go.RowKit
open Go.ChangeMaps (open_string shut_string)
set_option linter.unusedVariables false

open Go.Proofs.Ythmahaoadoeoaaa.PFieldProducts Go.Proofs.Ythmahaoadoeoaaa.Pure Go.Proofs.Ythmahaoadoeoaaa.Core Go.Proofs.YthmahaoadoeoaaaW.PrintWords Go.Proofs.YthmahaoadoeoaaaW.PrintLast
theorem mul_any (a b : BitVec 8) (w : World) : Calls Try.prog 19 #[.int .u8 (B a), .int .u8 (B b)] w fun e w' => e = .returned (.int .u8 (B (mul P8 a b))) ∧ Drawn0 w w' :=
  field_Mul.calls 200 (B a) (B b) _ w (mul_eq 200 (by decide) a b)
theorem awake_any (w : World) : Calls Try.prog 22 #[] w fun e w' => e = .returned (.bool true) ∧ Drawn0 w w' :=
  nepenthelaw05_awake.calls 200 true w (awake_eq 200 (by decide))
attribute [local go_sem] xor8
theorem beq_B {a b : BitVec 8} (h : a = b) : (B a == B b) = true := by rw [h]; exact beq_self_eq_true _
set_option maxHeartbeats 1000000 in
theorem walk (a b c : BitVec 8) (w : World) : Calls Try.prog 8 #[.int .u8 (B a), .int .u8 (B b), .int .u8 (B c)] w fun e w' => e = .returned (.bool true) ∧ Drawn0 w w' := by
  have t1 : (B (mul P8 a b) == B (mul P8 b a)) = true := beq_B (mul_comm _ _ _)
  have t2 : (B (mul P8 (mul P8 a b) c) == B (mul P8 a (mul P8 b c))) = true := beq_B (mul_assoc _ _ _ _)
  have t3 : (B (mul P8 a (b ^^^ c)) == B (mul P8 a b ^^^ mul P8 a c)) = true := beq_B (mul_right_xor _ _ _ _)
  have t4 : (B (mul P8 a 1#8) == B a) = true := beq_B (mul_one _ _)
  go_enter Try.func8, Try.ntmps8
  go_wp2_with (first
    | (go_at_call 19; (first | (with_reducible refine (mul_any _ _ _).mono ?_) | refine (mul_any a 1#8 _).mono ?_); rintro e w' ⟨rfl, ⟨nd, rfl⟩⟩)
    | (go_at_call 22; (with_reducible refine (awake_any _).mono ?_); rintro e w' ⟨rfl, ⟨nd, rfl⟩⟩))
  go_ret
  exact ⟨rfl, by repeat (first | exact Drawn0.refl _ | apply Drawn0.step)⟩
theorem own : ownKnob Try.prog.godebug = none := by kernel_rfl
set_option maxRecDepth 100000 in
theorem lifted (os : Os) (started : os.Started) (H : Type) (enc : TypeId × Value → H) :
    ReturnsInHanded {} Try.checked os 8 .any (Rows.fieldRulesSpec.pre6 enc Try.prog Try.f8 Rows.fieldRulesRow.domain false) (Rows.fieldRulesSpec.post enc Try.prog Try.f8 false true false false) := by
  refine returnsInHanded_of_change_sized (C := Try.checked) own started (by kernel_rfl) Try.func8
    (ChangeSpec.witness6 (enc := enc) (C := Try.checked) false ⟨#[], #[.int .u8 0, .int .u8 0, .int .u8 0], []⟩ 8 (by kernel_rfl) (by kernel_rfl) (by kernel_rfl) (by kernel_rfl)) ?_
  intro W base args ds gs before hval0 hW hcnd hsz0 _
  have hsz : (DataW.weightsEach Try.prog (Try.f8.params.toList ++ Rows.fieldRulesSpec.plain.varTypes Try.prog) (ds ++ gs)).all (· ≤ reachBytes) = true := hsz0
  have hval : ∀ (j : Nat) t v, Try.f8.params[j]? = some t → args[j]? = some v → Value.okWide Try.prog W .any base t v := hval0
  have hW' := hW
  obtain ⟨p, q, hA0, hV, rfl, hfz, hnd⟩ := hW
  have hA : DataW.TrodAll enc Try.prog W 0 (fun _ => true) true Try.f8.params.toList args.toList ds p := hA0
  rw [Try.params8] at hA hval hsz
  obtain ⟨v0, vs0, d0, ds0, p0, q0, hargs, rfl, rfl, h0, r0⟩ := trodAll_cons hA
  obtain ⟨v1, vs1, d1, ds1, p1, q1, rfl, rfl, rfl, h1, r1⟩ := trodAll_cons r0
  obtain ⟨v2, vs2, d2, ds2, p2, q2, rfl, rfl, rfl, h2, r2⟩ := trodAll_cons r1
  obtain ⟨rfl, rfl, rfl⟩ := trodAll_nil r2
  obtain rfl : args = #[v0, v1, v2] := by cases args; simp_all
  obtain ⟨rfl, rfl⟩ := trodVars_none hV
  obtain ⟨a0, rfl, rfl, rfl, w0⟩ := open_int Try.underlying5 (hval 0 5 v0 rfl rfl) h0
  obtain ⟨a1, rfl, rfl, rfl, w1⟩ := open_int Try.underlying5 (hval 1 5 v1 rfl rfl) h1
  obtain ⟨a2, rfl, rfl, rfl, w2⟩ := open_int Try.underlying5 (hval 2 5 v2 rfl rfl) h2
  clear hA0 hval0 hsz0 hsz
  obtain ⟨x0, rfl⟩ := B_of a0 w0
  obtain ⟨x1, rfl⟩ := B_of a1 w1
  obtain ⟨x2, rfl⟩ := B_of a2 w2
  refine (walk x0 x1 x2 W).mono fun e W' ⟨he, bel⟩ => ?_
  subst he
  exact ⟨_, rfl, _, _, _, [], _, [], hW', trodAll_mk1 (shut_bool Try.underlying4 _), (trodAll_cons_mk (shut_int Try.underlying5 w0) (trodAll_cons_mk (shut_int Try.underlying5 w1) (trodAll_cons_mk (shut_int Try.underlying5 w2) trodAll_mk0))), rfl, bel.below.frame _, fun h => by cases h⟩
theorem over : Rows.fieldRulesRow.holds Try.pinned (OpenSpec.ofChange Rows.fieldRulesSpec) :=
  OpenClaim.holds_of_wide 8 Try.f8 rfl rfl rfl rfl rfl rfl rfl ⟨rfl, rfl, rfl, rfl, rfl⟩ rfl rfl rfl rfl rfl (by kernel_rfl) Try.func8 (by kernel_rfl)
    (of_decide_eq_true (by kernel_rfl)) (by unfold Func.isWrapper; first | (rw [if_pos (by decide +kernel)]; kernel_rfl) | (rw [if_neg (by decide +kernel)]; exact ⟨rfl, rfl⟩))
    (fun os started H enc _ => lifted os started H enc)
theorem proved : Rows.FieldRulesSaid := over
#print axioms proved
end Go.Proofs.Ythmahaoadoeoaaa.fieldRules
namespace Go.Proofs.Ythmahaoadoeoaaa
/-- The row, under a short name, for the claim. -/
theorem fieldRules_holds : Rows.FieldRulesSaid := fieldRules.proved
end Go.Proofs.Ythmahaoadoeoaaa
