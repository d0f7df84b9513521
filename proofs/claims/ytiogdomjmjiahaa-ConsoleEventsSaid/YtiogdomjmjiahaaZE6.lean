/- CmA, pruned (slim.py). -/
import Derived.Test.YtiogdomjmjiahaaProg
import Derived.Test.YtiogdomjmjiahaaZE5
import Derived.Lib.Hide
namespace Go.Proofs.Ytiogdomjmjiahaa.Own
open Go.RowKit Go.Proofs.Ytiogdomjmjiahaa.Arr Go.Proofs.YtiogdomjmjiahaaW.PrintWords Go.Proofs.YtiogdomjmjiahaaW.PrintLast Go.Proofs.YtiogdomjmjiahaaW.PrintMore
set_option linter.unusedVariables false
set_option linter.unusedSimpArgs false
def wordsL : List ByteArray := [(⟨#[111, 116, 104, 101, 114]⟩ : ByteArray), (⟨#[102, 111, 114, 109, 97, 116]⟩ : ByteArray), (⟨#[117, 110, 108, 111, 99, 107]⟩ : ByteArray), (⟨#[108, 111, 99, 107]⟩ : ByteArray), (⟨#[99, 114, 101, 97, 116, 101]⟩ : ByteArray), (⟨#[100, 101, 108, 101, 116, 101]⟩ : ByteArray), (⟨#[114, 101, 97, 100]⟩ : ByteArray), (⟨#[119, 114, 105, 116, 101]⟩ : ByteArray), (⟨#[116, 114, 105, 109]⟩ : ByteArray), (⟨#[102, 108, 117, 115, 104]⟩ : ByteArray), (⟨#[100, 114, 97, 105, 110]⟩ : ByteArray), (⟨#[101, 114, 97, 115, 101]⟩ : ByteArray), (⟨#[112, 117, 114, 103, 101]⟩ : ByteArray), (⟨#[109, 111, 117, 110, 116]⟩ : ByteArray), (⟨#[99, 104, 97, 110, 103, 101]⟩ : ByteArray), (⟨#[105, 100, 108, 101]⟩ : ByteArray)]
def nameB (a : Int) : ByteArray := if 1 ≤ a ∧ a ≤ 15 then wordsL.getD a.toNat ByteArray.empty else wordsL.getD 0 ByteArray.empty
set_option maxHeartbeats 1000000 in
set_option maxRecDepth 100000 in
theorem name_bad (a : Int) (h : a < 1 ∨ 15 < a) (w : World) : Calls Try.prog 13 #[.int .i64 a] w fun e w' => e = .returned (.string (wordsL.getD 0 ByteArray.empty)) ∧ Drawn0 w w' := by
  have e0 : wordsL.getD 0 ByteArray.empty = ⟨#[111, 116, 104, 101, 114]⟩ := rfl
  rw [e0]
  rcases h with h | h
  all_goals
    go_enter Try.func13, Try.ntmps13
    go_wp2
    go_ret
    exact ⟨rfl, Drawn0.refl _⟩
def kindsA : Array Value := #[Value.string { data := #[102, 111, 114, 109, 97, 116] }, Value.string { data := #[117, 110, 108, 111, 99, 107] }, Value.string { data := #[108, 111, 99, 107] }, Value.string { data := #[99, 114, 101, 97, 116, 101] }, Value.string { data := #[100, 101, 108, 101, 116, 101] }, Value.string { data := #[114, 101, 97, 100] }, Value.string { data := #[119, 114, 105, 116, 101] }, Value.string { data := #[116, 114, 105, 109] }, Value.string { data := #[102, 108, 117, 115, 104] }, Value.string { data := #[100, 114, 97, 105, 110] }, Value.string { data := #[101, 114, 97, 115, 101] }, Value.string { data := #[112, 117, 114, 103, 101] }, Value.string { data := #[109, 111, 117, 110, 116] }, Value.string { data := #[99, 104, 97, 110, 103, 101] }, Value.string { data := #[105, 100, 108, 101] }]
theorem built15 : Try.prog.built 102 (#[(0, Value.string { data := #[102, 111, 114, 109, 97, 116] }), (1, Value.string { data := #[117, 110, 108, 111, 99, 107] }), (2, Value.string { data := #[108, 111, 99, 107] }), (3, Value.string { data := #[99, 114, 101, 97, 116, 101] }), (4, Value.string { data := #[100, 101, 108, 101, 116, 101] }), (5, Value.string { data := #[114, 101, 97, 100] }), (6, Value.string { data := #[119, 114, 105, 116, 101] }), (7, Value.string { data := #[116, 114, 105, 109] }), (8, Value.string { data := #[102, 108, 117, 115, 104] }), (9, Value.string { data := #[100, 114, 97, 105, 110] }), (10, Value.string { data := #[101, 114, 97, 115, 101] }), (11, Value.string { data := #[112, 117, 114, 103, 101] }), (12, Value.string { data := #[109, 111, 117, 110, 116] }), (13, Value.string { data := #[99, 104, 97, 110, 103, 101] }), (14, Value.string { data := #[105, 100, 108, 101] })] : Array (Nat × Value)).toList = some kindsA := by kernel_rfl
theorem build15 (W : World) : (Instr.build 102 #[(0, Value.string { data := #[102, 111, 114, 109, 97, 116] }), (1, Value.string { data := #[117, 110, 108, 111, 99, 107] }), (2, Value.string { data := #[108, 111, 99, 107] }), (3, Value.string { data := #[99, 114, 101, 97, 116, 101] }), (4, Value.string { data := #[100, 101, 108, 101, 116, 101] }), (5, Value.string { data := #[114, 101, 97, 100] }), (6, Value.string { data := #[119, 114, 105, 116, 101] }), (7, Value.string { data := #[116, 114, 105, 109] }), (8, Value.string { data := #[102, 108, 117, 115, 104] }), (9, Value.string { data := #[100, 114, 97, 105, 110] }), (10, Value.string { data := #[101, 114, 97, 115, 101] }), (11, Value.string { data := #[112, 117, 114, 103, 101] }), (12, Value.string { data := #[109, 111, 117, 110, 116] }), (13, Value.string { data := #[99, 104, 97, 110, 103, 101] }), (14, Value.string { data := #[105, 100, 108, 101] })]).run Try.prog W = .ok (.agg kindsA) W := run_build W _ _ _ built15
theorem kind_1 (W : World) : (Instr.index 102 (.agg kindsA) (.int .i64 0)).run Try.prog W = .ok (.string { data := #[102, 111, 114, 109, 97, 116] }) W := by kernel_rfl
attribute [-go_sem] Instr.build in
set_option maxHeartbeats 1000000 in
set_option maxRecDepth 100000 in
theorem name_1 (w : World) : Calls Try.prog 13 #[.int .i64 1] w fun e w' => e = .returned (.string { data := #[102, 111, 114, 109, 97, 116] }) ∧ Drawn0 w w' := by
  have hb := build15
  have hi := kind_1
  go_enter Try.func13, Try.ntmps13
  go_wp2
  go_ret
  exact ⟨rfl, Drawn0.refl _⟩
theorem kind_2 (W : World) : (Instr.index 102 (.agg kindsA) (.int .i64 1)).run Try.prog W = .ok (.string { data := #[117, 110, 108, 111, 99, 107] }) W := by kernel_rfl
attribute [-go_sem] Instr.build in
set_option maxHeartbeats 1000000 in
set_option maxRecDepth 100000 in
theorem name_2 (w : World) : Calls Try.prog 13 #[.int .i64 2] w fun e w' => e = .returned (.string { data := #[117, 110, 108, 111, 99, 107] }) ∧ Drawn0 w w' := by
  have hb := build15
  have hi := kind_2
  go_enter Try.func13, Try.ntmps13
  go_wp2
  go_ret
  exact ⟨rfl, Drawn0.refl _⟩
theorem kind_3 (W : World) : (Instr.index 102 (.agg kindsA) (.int .i64 2)).run Try.prog W = .ok (.string { data := #[108, 111, 99, 107] }) W := by kernel_rfl
attribute [-go_sem] Instr.build in
set_option maxHeartbeats 1000000 in
set_option maxRecDepth 100000 in
theorem name_3 (w : World) : Calls Try.prog 13 #[.int .i64 3] w fun e w' => e = .returned (.string { data := #[108, 111, 99, 107] }) ∧ Drawn0 w w' := by
  have hb := build15
  have hi := kind_3
  go_enter Try.func13, Try.ntmps13
  go_wp2
  go_ret
  exact ⟨rfl, Drawn0.refl _⟩
theorem kind_4 (W : World) : (Instr.index 102 (.agg kindsA) (.int .i64 3)).run Try.prog W = .ok (.string { data := #[99, 114, 101, 97, 116, 101] }) W := by kernel_rfl
attribute [-go_sem] Instr.build in
set_option maxHeartbeats 1000000 in
set_option maxRecDepth 100000 in
theorem name_4 (w : World) : Calls Try.prog 13 #[.int .i64 4] w fun e w' => e = .returned (.string { data := #[99, 114, 101, 97, 116, 101] }) ∧ Drawn0 w w' := by
  have hb := build15
  have hi := kind_4
  go_enter Try.func13, Try.ntmps13
  go_wp2
  go_ret
  exact ⟨rfl, Drawn0.refl _⟩
theorem kind_5 (W : World) : (Instr.index 102 (.agg kindsA) (.int .i64 4)).run Try.prog W = .ok (.string { data := #[100, 101, 108, 101, 116, 101] }) W := by kernel_rfl
attribute [-go_sem] Instr.build in
set_option maxHeartbeats 1000000 in
set_option maxRecDepth 100000 in
theorem name_5 (w : World) : Calls Try.prog 13 #[.int .i64 5] w fun e w' => e = .returned (.string { data := #[100, 101, 108, 101, 116, 101] }) ∧ Drawn0 w w' := by
  have hb := build15
  have hi := kind_5
  go_enter Try.func13, Try.ntmps13
  go_wp2
  go_ret
  exact ⟨rfl, Drawn0.refl _⟩
theorem kind_6 (W : World) : (Instr.index 102 (.agg kindsA) (.int .i64 5)).run Try.prog W = .ok (.string { data := #[114, 101, 97, 100] }) W := by kernel_rfl
attribute [-go_sem] Instr.build in
set_option maxHeartbeats 1000000 in
set_option maxRecDepth 100000 in
theorem name_6 (w : World) : Calls Try.prog 13 #[.int .i64 6] w fun e w' => e = .returned (.string { data := #[114, 101, 97, 100] }) ∧ Drawn0 w w' := by
  have hb := build15
  have hi := kind_6
  go_enter Try.func13, Try.ntmps13
  go_wp2
  go_ret
  exact ⟨rfl, Drawn0.refl _⟩
theorem kind_7 (W : World) : (Instr.index 102 (.agg kindsA) (.int .i64 6)).run Try.prog W = .ok (.string { data := #[119, 114, 105, 116, 101] }) W := by kernel_rfl
attribute [-go_sem] Instr.build in
set_option maxHeartbeats 1000000 in
set_option maxRecDepth 100000 in
theorem name_7 (w : World) : Calls Try.prog 13 #[.int .i64 7] w fun e w' => e = .returned (.string { data := #[119, 114, 105, 116, 101] }) ∧ Drawn0 w w' := by
  have hb := build15
  have hi := kind_7
  go_enter Try.func13, Try.ntmps13
  go_wp2
  go_ret
  exact ⟨rfl, Drawn0.refl _⟩
theorem kind_8 (W : World) : (Instr.index 102 (.agg kindsA) (.int .i64 7)).run Try.prog W = .ok (.string { data := #[116, 114, 105, 109] }) W := by kernel_rfl
attribute [-go_sem] Instr.build in
set_option maxHeartbeats 1000000 in
set_option maxRecDepth 100000 in
theorem name_8 (w : World) : Calls Try.prog 13 #[.int .i64 8] w fun e w' => e = .returned (.string { data := #[116, 114, 105, 109] }) ∧ Drawn0 w w' := by
  have hb := build15
  have hi := kind_8
  go_enter Try.func13, Try.ntmps13
  go_wp2
  go_ret
  exact ⟨rfl, Drawn0.refl _⟩
theorem kind_9 (W : World) : (Instr.index 102 (.agg kindsA) (.int .i64 8)).run Try.prog W = .ok (.string { data := #[102, 108, 117, 115, 104] }) W := by kernel_rfl
attribute [-go_sem] Instr.build in
set_option maxHeartbeats 1000000 in
set_option maxRecDepth 100000 in
theorem name_9 (w : World) : Calls Try.prog 13 #[.int .i64 9] w fun e w' => e = .returned (.string { data := #[102, 108, 117, 115, 104] }) ∧ Drawn0 w w' := by
  have hb := build15
  have hi := kind_9
  go_enter Try.func13, Try.ntmps13
  go_wp2
  go_ret
  exact ⟨rfl, Drawn0.refl _⟩
theorem kind_10 (W : World) : (Instr.index 102 (.agg kindsA) (.int .i64 9)).run Try.prog W = .ok (.string { data := #[100, 114, 97, 105, 110] }) W := by kernel_rfl
attribute [-go_sem] Instr.build in
set_option maxHeartbeats 1000000 in
set_option maxRecDepth 100000 in
theorem name_10 (w : World) : Calls Try.prog 13 #[.int .i64 10] w fun e w' => e = .returned (.string { data := #[100, 114, 97, 105, 110] }) ∧ Drawn0 w w' := by
  have hb := build15
  have hi := kind_10
  go_enter Try.func13, Try.ntmps13
  go_wp2
  go_ret
  exact ⟨rfl, Drawn0.refl _⟩
theorem kind_11 (W : World) : (Instr.index 102 (.agg kindsA) (.int .i64 10)).run Try.prog W = .ok (.string { data := #[101, 114, 97, 115, 101] }) W := by kernel_rfl
attribute [-go_sem] Instr.build in
set_option maxHeartbeats 1000000 in
set_option maxRecDepth 100000 in
theorem name_11 (w : World) : Calls Try.prog 13 #[.int .i64 11] w fun e w' => e = .returned (.string { data := #[101, 114, 97, 115, 101] }) ∧ Drawn0 w w' := by
  have hb := build15
  have hi := kind_11
  go_enter Try.func13, Try.ntmps13
  go_wp2
  go_ret
  exact ⟨rfl, Drawn0.refl _⟩
theorem kind_12 (W : World) : (Instr.index 102 (.agg kindsA) (.int .i64 11)).run Try.prog W = .ok (.string { data := #[112, 117, 114, 103, 101] }) W := by kernel_rfl
attribute [-go_sem] Instr.build in
set_option maxHeartbeats 1000000 in
set_option maxRecDepth 100000 in
theorem name_12 (w : World) : Calls Try.prog 13 #[.int .i64 12] w fun e w' => e = .returned (.string { data := #[112, 117, 114, 103, 101] }) ∧ Drawn0 w w' := by
  have hb := build15
  have hi := kind_12
  go_enter Try.func13, Try.ntmps13
  go_wp2
  go_ret
  exact ⟨rfl, Drawn0.refl _⟩
theorem kind_13 (W : World) : (Instr.index 102 (.agg kindsA) (.int .i64 12)).run Try.prog W = .ok (.string { data := #[109, 111, 117, 110, 116] }) W := by kernel_rfl
attribute [-go_sem] Instr.build in
set_option maxHeartbeats 1000000 in
set_option maxRecDepth 100000 in
theorem name_13 (w : World) : Calls Try.prog 13 #[.int .i64 13] w fun e w' => e = .returned (.string { data := #[109, 111, 117, 110, 116] }) ∧ Drawn0 w w' := by
  have hb := build15
  have hi := kind_13
  go_enter Try.func13, Try.ntmps13
  go_wp2
  go_ret
  exact ⟨rfl, Drawn0.refl _⟩
theorem kind_14 (W : World) : (Instr.index 102 (.agg kindsA) (.int .i64 13)).run Try.prog W = .ok (.string { data := #[99, 104, 97, 110, 103, 101] }) W := by kernel_rfl
attribute [-go_sem] Instr.build in
set_option maxHeartbeats 1000000 in
set_option maxRecDepth 100000 in
theorem name_14 (w : World) : Calls Try.prog 13 #[.int .i64 14] w fun e w' => e = .returned (.string { data := #[99, 104, 97, 110, 103, 101] }) ∧ Drawn0 w w' := by
  have hb := build15
  have hi := kind_14
  go_enter Try.func13, Try.ntmps13
  go_wp2
  go_ret
  exact ⟨rfl, Drawn0.refl _⟩
theorem kind_15 (W : World) : (Instr.index 102 (.agg kindsA) (.int .i64 14)).run Try.prog W = .ok (.string { data := #[105, 100, 108, 101] }) W := by kernel_rfl
attribute [-go_sem] Instr.build in
set_option maxHeartbeats 1000000 in
set_option maxRecDepth 100000 in
theorem name_15 (w : World) : Calls Try.prog 13 #[.int .i64 15] w fun e w' => e = .returned (.string { data := #[105, 100, 108, 101] }) ∧ Drawn0 w w' := by
  have hb := build15
  have hi := kind_15
  go_enter Try.func13, Try.ntmps13
  go_wp2
  go_ret
  exact ⟨rfl, Drawn0.refl _⟩
theorem name_any (a : Int) (w : World) : Calls Try.prog 13 #[.int .i64 a] w fun e w' => e = .returned (.string (nameB a)) ∧ Drawn0 w w' := by
  by_cases h : 1 ≤ a ∧ a ≤ 15
  · have : a = 1 ∨ a = 2 ∨ a = 3 ∨ a = 4 ∨ a = 5 ∨ a = 6 ∨ a = 7 ∨ a = 8 ∨ a = 9 ∨ a = 10 ∨ a = 11 ∨ a = 12 ∨ a = 13 ∨ a = 14 ∨ a = 15 := by omega
    rcases this with rfl | rfl | rfl | rfl | rfl | rfl | rfl | rfl | rfl | rfl | rfl | rfl | rfl | rfl | rfl
    · exact name_1 w
    · exact name_2 w
    · exact name_3 w
    · exact name_4 w
    · exact name_5 w
    · exact name_6 w
    · exact name_7 w
    · exact name_8 w
    · exact name_9 w
    · exact name_10 w
    · exact name_11 w
    · exact name_12 w
    · exact name_13 w
    · exact name_14 w
    · exact name_15 w
  · rw [nameB, if_neg h]
    exact name_bad a (by omega) w
def command_Name.f (a0 : Int) : Option ByteArray := some (nameB a0)
theorem command_Name.calls (a0 : Int) (r : ByteArray) (w : World) (h : command_Name.f a0 = some r) :
    Calls Try.prog 13 #[.int .i64 a0] w fun e w' => e = .returned (.string r) ∧ Drawn0 w w' := by
  obtain rfl := Option.some.inj h
  exact name_any a0 w
end Go.Proofs.Ytiogdomjmjiahaa.Own
