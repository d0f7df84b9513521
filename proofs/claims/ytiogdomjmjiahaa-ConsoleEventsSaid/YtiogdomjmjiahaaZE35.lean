/- PvA, pruned (slim.py). -/
import Derived.Test.YtiogdomjmjiahaaZE34
import Derived.Test.YtiogdomjmjiahaaZE31
import Derived.Test.YtiogdomjmjiahaaZE3
import Derived.Test.YtiogdomjmjiahaaZE21
import Derived.Test.YtiogdomjmjiahaaZE4
import Derived.Test.YtiogdomjmjiahaaZE22
import Derived.Test.YtiogdomjmjiahaaZE12
import Derived.Test.YtiogdomjmjiahaaZE24
namespace Go.Proofs.Ytiogdomjmjiahaa.Own
open Go.RowKit Go.Proofs.Ytiogdomjmjiahaa.Arr Go.Proofs.Ytiogdomjmjiahaa.QA Go.Proofs.Ytiogdomjmjiahaa.QB Go.Proofs.Ytiogdomjmjiahaa.QC Go.Proofs.YtiogdomjmjiahaaW.PrintWords Go.Proofs.YtiogdomjmjiahaaW.PrintLast Go.Proofs.YtiogdomjmjiahaaW.PrintMore
set_option linter.unusedVariables false
set_option linter.unusedSimpArgs false
def evWf (x : EvT) : Prop := (∀ y ∈ x.f0.f1, byt y) ∧ -9223372036854775808 ≤ x.f1 ∧ x.f1 < 9223372036854775808
theorem refHexW (l : List Int) (h : ∀ x ∈ l, byt x) (hl : l.length ≤ 3000) : nepentheref35_Hex.f l = some (strOfNums (hexW l)) := by
  unfold nepentheref35_Hex.f hexW
  by_cases h0 : l.length = 0
  · rw [if_pos (by omega), if_pos h0]; rfl
  · rw [if_neg (by omega), if_neg h0]
    unfold nepentheref01_Hex.f
    rw [if_pos ⟨by omega, h⟩]; rfl
theorem rd94 (l : List EvT) (i : Nat) (h : i < l.length) : Go.Proofs.Ytiogdomjmjiahaa.QE.rd_T94 l (i : Int) = l[i] := by
  unfold Go.Proofs.Ytiogdomjmjiahaa.QE.rd_T94
  rw [Int.toNat_natCast, List.getD_eq_getElem?_getD, List.getElem?_eq_getElem h]; rfl
theorem ev_round (l : List EvT) (hl : l.length ≤ 30) (i : Nat) (hi : i < l.length) (X : List Int) (hX : X.length ≤ 1000000000) (hd : (l[i]).f0.f1.length ≤ 3000) (hw : evWf l[i]) (k : Nat) :
    Go.Proofs.Ytiogdomjmjiahaa.QE.nepenthelaw35_ConsoleEvents.l0 (k + 30 + 1) l (strOfNums X) (i : Int) = Go.Proofs.Ytiogdomjmjiahaa.QE.nepenthelaw35_ConsoleEvents.l0 (k + 30) l (strOfNums (X ++ evL l[i])) ((i + 1 : Nat) : Int) := by
  have hrd := rd94 l i hi
  obtain ⟨x, hx⟩ : ∃ x, x = l[i] := ⟨_, rfl⟩
  rw [← hx] at hrd hd hw ⊢
  have hn := refNumber_eq x.f1 hw.2.1 hw.2.2 k
  rw [show numS x.f1 = strOfNums (numLs x.f1) from rfl] at hn
  have hh := refHexW x.f0.f1 hw.1 hd
  have he : api_Errno_Error.f x.f0.f0 = some (strOfNums (errL x.f0.f0)) := by rw [errL_eq]; exact (err_eq _).1
  have hs1 := errL_len x.f0.f0
  have hs2 := numLs_len x.f1
  have hs3 := hexW_len x.f0.f1
  have hw3 : wrap64 ((i : Int) + 1) = ((i + 1 : Nat) : Int) := by rw [w64 _ (by omega) (by omega)]; omega
  have l1 : (⟨#[32, 111, 112, 115, 32]⟩ : ByteArray) = strOfNums [32, 111, 112, 115, 32] := rfl
  have l2 : (⟨#[32, 100, 97, 116, 97, 32]⟩ : ByteArray) = strOfNums [32, 100, 97, 116, 97, 32] := rfl
  have l3 : (⟨#[32, 111, 102, 102]⟩ : ByteArray) = strOfNums [32, 111, 102, 102] := rfl
  have l4 : (⟨#[10]⟩ : ByteArray) = strOfNums [10] := rfl
  rw [Go.Proofs.Ytiogdomjmjiahaa.QE.nepenthelaw35_ConsoleEvents.l0, if_pos (by omega), if_pos (by omega), hrd, if_neg (by omega), he, Option.bind_some, hn, hh, l1, l2, l3, l4, hw3]
  simp only [← str_app, strOfNums_size, Option.bind_some, List.length_append, List.length_cons, List.length_nil]
  have o1 : evOff true = [] := rfl
  have o2 : evOff false = [32, 111, 102, 102] := rfl
  rw [if_pos (by omega), if_pos (by omega), if_pos (by omega)]
  cases hb : x.f5
  · rw [if_neg (by simp), if_pos (by omega), if_pos (by omega), if_pos (by omega), if_pos (by omega)]
    congr 2
    unfold evL evHead evTail
    rw [hb, o2]
    simp only [List.append_assoc]
  · rw [if_pos rfl, if_pos (by omega), if_pos (by omega), if_pos (by omega)]
    congr 2
    unfold evL evHead evTail
    rw [hb, o1]
    simp only [List.append_assoc, List.nil_append]
theorem ev_l (l : List EvT) (hl : l.length ≤ 30) (hw : ∀ x ∈ l, evWf x) (d : Nat) : ∀ i, i + d = l.length → (∀ x ∈ l.take i, x.f0.f1.length ≤ 3000) → ∀ k, Go.Proofs.Ytiogdomjmjiahaa.QE.nepenthelaw35_ConsoleEvents.l0 (k + 30 + d + 1) l (strOfNums (evsL (l.take i))) (i : Int) = some true := by
  induction d with
  | zero =>
    intro i hi hs k
    obtain rfl : i = l.length := by omega
    rw [List.take_length] at hs ⊢
    have hc : console_Events.f l = some (strOfNums (evsL l)) := by
      unfold console_Events.f
      exact if_pos ⟨by omega, fun x hx => ⟨by have := hs x hx; omega, (hw x hx).1, (hw x hx).2.1, (hw x hx).2.2⟩⟩
    rw [Go.Proofs.Ytiogdomjmjiahaa.QE.nepenthelaw35_ConsoleEvents.l0, if_neg (by omega), hc, Option.bind_some, if_pos rfl]; rfl
  | succ d ih =>
    intro i hi hs k
    have hlt : i < l.length := by omega
    by_cases hd : (l[i]).f0.f1.length ≤ 3000
    · have hX : (evsL (l.take i)).length ≤ 1000000000 := by
        have := evsL_len (l.take i) (fun x hx => ⟨by have := hs x hx; omega, (hw x (List.mem_of_mem_take hx)).1, (hw x (List.mem_of_mem_take hx)).2.1, (hw x (List.mem_of_mem_take hx)).2.2⟩)
        rw [List.length_take] at this
        have : min i l.length ≤ 30 := by omega
        omega
      have hr := ev_round l hl i hlt (evsL (l.take i)) hX hd (hw _ (List.getElem_mem hlt)) (k + d + 1)
      rw [show k + 30 + (d + 1) + 1 = k + d + 1 + 30 + 1 from by omega, hr, ← evsL_succ l i hlt, show k + d + 1 + 30 = k + 30 + d + 1 from by omega]
      refine ih (i + 1) (by omega) (fun x hx => ?_) k
      rw [List.take_succ_eq_append_getElem hlt] at hx
      rcases List.mem_append.1 hx with hx | hx
      · exact hs x hx
      · simp at hx; rw [hx]; exact hd
    · rw [show k + 30 + (d + 1) + 1 = (k + 30 + d + 1) + 1 from by omega, Go.Proofs.Ytiogdomjmjiahaa.QE.nepenthelaw35_ConsoleEvents.l0, if_pos (by omega), if_pos (by omega), rd94 l i hlt, if_pos (by omega)]; rfl
theorem ev_law (l : List EvT) (hw : ∀ x ∈ l, evWf x) : Go.Proofs.Ytiogdomjmjiahaa.QE.nepenthelaw35_ConsoleEvents.f 100 l = some true := by
  unfold Go.Proofs.Ytiogdomjmjiahaa.QE.nepenthelaw35_ConsoleEvents.f
  by_cases h : (l.length : Int) > 30
  · rw [if_pos h]; rfl
  · rw [if_neg h]
    have := ev_l l (by omega) hw l.length 0 (by omega) (fun x hx => by simp at hx) (69 - l.length)
    rw [show 69 - l.length + 30 + l.length + 1 = 100 from by omega] at this
    exact this
end Go.Proofs.Ytiogdomjmjiahaa.Own
