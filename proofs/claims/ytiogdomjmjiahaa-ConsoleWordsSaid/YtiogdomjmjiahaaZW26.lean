/- PwA, pruned (slim.py). -/
import Derived.Test.YtiogdomjmjiahaaZW25
import Derived.Test.YtiogdomjmjiahaaZW20
import Derived.Test.YtiogdomjmjiahaaZW4
import Derived.Test.YtiogdomjmjiahaaZW11
import Derived.Test.YtiogdomjmjiahaaZW12
import Derived.Test.YtiogdomjmjiahaaZW6
import Derived.Test.YtiogdomjmjiahaaZW7
namespace Go.Proofs.Ytiogdomjmjiahaa.Own
open Go.RowKit Go.Proofs.Ytiogdomjmjiahaa.Arr Go.Proofs.Ytiogdomjmjiahaa.QA Go.Proofs.Ytiogdomjmjiahaa.QB Go.Proofs.Ytiogdomjmjiahaa.QC Go.Proofs.Ytiogdomjmjiahaa.QD Go.Proofs.YtiogdomjmjiahaaW.PrintWords Go.Proofs.YtiogdomjmjiahaaW.PrintLast Go.Proofs.YtiogdomjmjiahaaW.PrintMore
set_option linter.unusedVariables false
set_option linter.unusedSimpArgs false
theorem ba_empty_append (a : ByteArray) : (⟨#[]⟩ : ByteArray) ++ a = a := by
  apply ByteArray.ext; simp
theorem ext_step (s : ByteArray) (a i : Nat) (h : a ≤ i) (hi : i < s.size) : s.extract a i ++ s.extract i (i + 1) = s.extract a (i + 1) := by
  rw [ByteArray.extract_append_extract]
  congr 1 <;> omega
def stI : Option Nat → Int | none => -1 | some s => (s : Int)
def stB (x : ByteArray) (i : Nat) : Option Nat → ByteArray | none => ⟨#[]⟩ | some s => x.extract s i
def stOk (i : Nat) : Option Nat → Prop | none => True | some s => s < i
def pend (x : ByteArray) (i : Nat) : Option Nat → List ByteArray | none => [] | some s => [x.extract s i]
theorem ne_nil_of_size {b : ByteArray} (h : 0 < b.size) : b.toList ≠ [] := by
  intro e
  have : b.toList.length = 0 := by rw [e]; rfl
  rw [ByteArray.toList_eq] at this
  have h2 : b.size = b.data.toList.length := by simp
  omega
theorem nil_toList : (⟨#[]⟩ : ByteArray).toList = [] := by rw [ByteArray.toList_eq]
theorem words_both (x : ByteArray) (hx : x.size ≤ 2000) : ∀ (d i : Nat) (ws : List ByteArray) (st : Option Nat), i + d = x.size → stOk i st → ws.length ≤ i →
    ∃ r : List ByteArray, (∀ k, 3 * (d + 1) < k → console_Words.l0 k x ws (stI st) ((x.size : Int) + 1) (i : Int) = some r) ∧
      ((0 < d ∨ st = none) → ∀ k, d < k → nepentheref35_Words.l0 k x ws (stB x i st) (i : Int) = some r) ∧ (d = 0 → r = ws ++ pend x i st) ∧ r.length ≤ i + d + 1 := by
  intro d
  induction d with
  | zero =>
    intro i ws st hi hst hw
    obtain rfl : i = x.size := by omega
    refine ⟨ws ++ pend x x.size st, ?_, ?_, fun _ => rfl, ?_⟩
    · intro k hk
      obtain ⟨k, rfl⟩ : ∃ j, k = j + 4 := ⟨k - 4, by omega⟩
      have hw1 := w64 ((x.size : Int) + 1) (by omega) (by omega)
      rw [console_Words.l0, if_pos (by omega), if_pos rfl, console_Words.j1, if_pos rfl, console_Words.j2]
      cases st with
      | none =>
        rw [if_neg (by simp [stI]), if_pos rfl, hw1, console_Words.l0, if_neg (by omega)]
        simp [pend]
      | some s =>
        have hs : s < x.size := hst
        rw [if_pos (by simp [stI]), if_pos (by simp [stI]), if_pos (by simp only [stI]; omega), if_pos (by omega), if_pos (by omega), hw1, console_Words.l0, if_neg (by omega)]
        simp [pend, stI]
    · intro h k hk
      obtain ⟨k, rfl⟩ : ∃ j, k = j + 1 := ⟨k - 1, by omega⟩
      obtain rfl : st = none := by rcases h with h | h; omega; exact h
      rw [nepentheref35_Words.l0, if_neg (by omega)]
      simp [pend]
    · cases st <;> simp [pend] <;> omega
  | succ d ih =>
    intro i ws st hi hst hw
    have hlt : i < x.size := by omega
    have hw1 := w64 ((i : Int) + 1) (by omega) (by omega)
    have hcast : ((i : Int) + 1) = ((i + 1 : Nat) : Int) := by omega
    by_cases hc : bt x (i : Int) = 32
    · have hcb : (bt x (i : Int) == 32) = true := by rw [hc]; rfl
      cases st with
      | none =>
        obtain ⟨r, h1, h2, -, h4⟩ := ih (i + 1) ws none (by omega) trivial (by omega)
        refine ⟨r, ?_, ?_, fun h => by omega, by omega⟩
        · intro k hk
          obtain ⟨k, rfl⟩ : ∃ j, k = j + 3 := ⟨k - 3, by omega⟩
          rw [console_Words.l0, if_pos (by omega), if_neg (by omega), if_pos (by omega), if_pos (by omega), console_Words.j1, hcb, if_pos rfl, console_Words.j2, if_neg (by simp [stI]), if_pos rfl, hw1, hcast]
          exact h1 k (by omega)
        · intro _ k hk
          obtain ⟨k, rfl⟩ : ∃ j, k = j + 1 := ⟨k - 1, by omega⟩
          rw [nepentheref35_Words.l0, if_pos (by omega), if_pos (by omega), if_pos hc, if_pos (by exact nil_toList), hw1, hcast]
          exact h2 (Or.inr rfl) k (by omega)
      | some s =>
        have hs : s < i := hst
        obtain ⟨r, h1, h2, -, h4⟩ := ih (i + 1) (ws ++ [x.extract s i]) none (by omega) trivial (by simp; omega)
        refine ⟨r, ?_, ?_, fun h => by omega, by omega⟩
        · intro k hk
          obtain ⟨k, rfl⟩ : ∃ j, k = j + 3 := ⟨k - 3, by omega⟩
          rw [console_Words.l0, if_pos (by omega), if_neg (by omega), if_pos (by omega), if_pos (by omega), console_Words.j1, hcb, if_pos rfl, console_Words.j2, if_pos (by simp [stI]), if_pos (by simp [stI]), if_pos (by simp only [stI]; omega), if_pos (by omega), if_pos (by omega), hw1, hcast]
          exact h1 k (by omega)
        · intro _ k hk
          obtain ⟨k, rfl⟩ : ∃ j, k = j + 1 := ⟨k - 1, by omega⟩
          rw [nepentheref35_Words.l0, if_pos (by omega), if_pos (by omega), if_pos hc, if_neg (ne_nil_of_size (by simp [stB]; omega)), if_pos (by omega), hw1, hcast]
          exact h2 (Or.inr rfl) k (by omega)
    · have hcb : (bt x (i : Int) == 32) = false := by simpa using hc
      -- the word goes on
      obtain ⟨s', hs'⟩ : ∃ s', s' = st.getD i := ⟨_, rfl⟩
      have hst' : s' ≤ i := by rw [hs']; cases st with | none => simp | some s => have : s < i := hst; simp; omega
      have hcur : stB x i st ++ x.extract i (i + 1) = x.extract s' (i + 1) := by
        rw [hs']
        cases st with
        | none => simp only [stB, Option.getD_none]; exact ba_empty_append _
        | some s => have : s < i := hst; simp only [stB, Option.getD_some]; exact ext_step x s i (by omega) hlt
      obtain ⟨r, h1, h2, h3, h4⟩ := ih (i + 1) ws (some s') (by omega) (by show s' < i + 1; omega) (by omega)
      refine ⟨r, ?_, ?_, fun h => by omega, by omega⟩
      · intro k hk
        obtain ⟨k, rfl⟩ : ∃ j, k = j + 3 := ⟨k - 3, by omega⟩
        rw [console_Words.l0, if_pos (by omega), if_neg (by omega), if_pos (by omega), if_pos (by omega), console_Words.j1, hcb, if_neg (by simp), console_Words.j2, if_neg (by simp), if_neg (by simp)]
        have h1' := h1 k (by omega)
        cases st with
        | none =>
          rw [if_pos (by simp [stI]), hw1, hcast]
          rw [hs'] at h1'
          exact h1'
        | some s =>
          rw [if_neg (by simp [stI]), hw1, hcast]
          rw [hs'] at h1'
          exact h1'
      · intro _ k hk
        obtain ⟨k, rfl⟩ : ∃ j, k = j + 2 := ⟨k - 2, by omega⟩
        have hnat : ((i : Int) + 1).toNat = i + 1 := by omega
        rw [nepentheref35_Words.l0, if_pos (by omega), if_pos (by omega), if_neg hc, hw1, if_pos (by omega), if_pos (by omega), hnat, Int.toNat_natCast, hcur]
        have hsz : (x.extract s' (i + 1)).size = i + 1 - s' := by simp; omega
        have q1 : (stB x i st).size ≤ x.size := by
          cases st with
          | none => exact Nat.zero_le _
          | some s => simp only [stB, ByteArray.size_extract]; omega
        have q2 : (x.extract i (i + 1)).size ≤ 1 := by simp only [ByteArray.size_extract]; omega
        have hsz2 : (stB x i st).size + (x.extract i (i + 1)).size ≤ 9223372036854775807 := by omega
        rw [if_pos hsz2, if_neg (ne_nil_of_size (by rw [hsz]; omega))]
        by_cases hd : d = 0
        · rw [if_pos (by omega), if_pos (by omega), hcast, nepentheref35_Words.l0, if_neg (by omega), h3 hd]
          rfl
        · rw [if_neg (by omega), hcast]
          exact h2 (Or.inl (by omega)) (k + 1) (by omega)
theorem refNum_loop (s : ByteArray) (h9 : s.size ≤ 9) : ∀ (d i : Nat), i + d = s.size → digsB s i → ∀ k, d < k → nepentheref35_Number.l0 k s (numV s i) (i : Int) = some (if digsB s s.size then numV s s.size else -1) := by
  intro d
  induction d with
  | zero =>
    intro i hi hd k hk
    obtain ⟨k, rfl⟩ : ∃ j, k = j + 1 := ⟨k - 1, by omega⟩
    obtain rfl : i = s.size := by omega
    rw [nepentheref35_Number.l0, if_neg (by omega), if_pos hd]
  | succ d ih =>
    intro i hi hd k hk
    obtain ⟨k, rfl⟩ : ∃ j, k = j + 1 := ⟨k - 1, by omega⟩
    obtain ⟨n0, n1⟩ := numV_le s i hd (by omega)
    rw [nepentheref35_Number.l0, if_pos (by omega), if_pos (by omega)]
    have no : ¬ digB (bt s (i : Int)) → ¬ digsB s s.size := fun h h2 => h (h2 i (by omega))
    by_cases h1 : bt s (i : Int) < 48
    · rw [if_pos h1, if_neg (no (fun h => by have := h.1; omega))]
    rw [if_neg h1]
    by_cases h2 : bt s (i : Int) > 57
    · rw [if_pos h2, if_neg (no (fun h => by have := h.2; omega))]
    rw [if_neg h2]
    have hdig : digB (bt s (i : Int)) := ⟨by omega, by omega⟩
    have hd' : digsB s (i + 1) := by
      intro j hj
      by_cases h : j = i
      · subst h; exact hdig
      · exact hd j (Nat.lt_of_le_of_ne (Nat.le_of_lt_succ hj) h)
    have e1 := w64 (numV s i * 10) (by omega) (by omega)
    have e2 := w64 (bt s (i : Int)) (by omega) (by omega)
    have e3 := w64 (numV s i * 10 + bt s (i : Int)) (by omega) (by omega)
    have e4 := w64 (numV s i * 10 + bt s (i : Int) - 48) (by omega) (by omega)
    have e5 := w64 ((i : Int) + 1) (by omega) (by omega)
    have e6 : numV s i * 10 + bt s (i : Int) - 48 = numV s (i + 1) := by rw [numV]; omega
    have hcast : ((i : Int) + 1) = ((i + 1 : Nat) : Int) := by omega
    rw [e1, e2, e3, e4, e5, e6, hcast]
    exact ih (i + 1) (by omega) hd' k (by omega)
theorem refNum_eq (s : ByteArray) (k : Nat) (hk : 12 ≤ k) : nepentheref35_Number.f k s = some ((conNum s).getD (-1)) := by
  obtain ⟨k, rfl⟩ : ∃ j, k = j + 1 := ⟨k - 1, by omega⟩
  unfold nepentheref35_Number.f conNum
  by_cases h1 : s.size < 1
  · rw [if_pos (by omega), nepentheref35_Number.j0, if_pos rfl, if_pos (Or.inl h1)]; rfl
  rw [if_neg (by omega)]
  by_cases h9 : 9 < s.size
  · rw [if_pos (by omega), nepentheref35_Number.j0, if_pos rfl, if_pos (Or.inr (Or.inl h9))]; rfl
  rw [if_neg (by omega)]
  have hl : nepentheref35_Number.l0 k s 0 0 = some (if digsB s s.size then numV s s.size else -1) := by
    have := refNum_loop s (by omega) s.size 0 (by omega) (fun i hi => absurd hi (Nat.not_lt_zero _)) k (by omega)
    exact this
  have hfin : some (if digsB s s.size then numV s s.size else -1) = some ((if digsB s s.size then some (numV s s.size) else none : Option Int).getD (-1)) := by
    split <;> rfl
  by_cases hgt : 1 < s.size
  · rw [if_pos (by omega), if_pos (by omega)]
    by_cases hz : bt s 0 = 48
    · have hzb : (bt s 0 == 48) = true := by rw [hz]; rfl
      rw [nepentheref35_Number.j0, hzb, if_pos rfl, if_pos (Or.inr (Or.inr ⟨hgt, hz⟩))]; rfl
    · rw [nepentheref35_Number.j0, if_neg (by simpa using hz), if_neg (by rintro (h | h | h) <;> omega), hl, hfin]
  · rw [if_neg (by omega), nepentheref35_Number.j0, if_neg (by simp), if_neg (by rintro (h | h | h) <;> omega), hl, hfin]
theorem conNum_nonneg (s : ByteArray) (n : Int) (h : conNum s = some n) : 0 ≤ n := by
  unfold conNum at h
  split at h
  · cases h
  · split at h
    · rename_i h2
      obtain rfl := Option.some.inj h
      exact (numV_bd s _ h2).1
    · cases h
theorem lawLoop (x1 : ByteArray) (xs : List ByteArray) (hxs : xs.length ≤ 3000) : ∀ (d i : Nat), i + d = xs.length → ∀ k, d + 13 < k → nepenthelaw35_ConsoleWords.l0 k x1 xs xs (i : Int) = some true := by
  intro d
  induction d with
  | zero =>
    intro i hi k hk
    obtain ⟨k, rfl⟩ : ∃ j, k = j + 1 := ⟨k - 1, by omega⟩
    rw [nepenthelaw35_ConsoleWords.l0, if_neg (by omega), refNum_eq x1 k (by omega)]
    unfold console_Number.f numRes
    cases h : conNum x1 with
    | none => rfl
    | some n =>
      have := conNum_nonneg x1 n h
      simp only [Option.bind_some, Option.getD_some]
      rw [if_pos (by rw [decide_eq_true (by omega : n ≥ 0)]; rfl), if_pos (by unfold mx; split <;> omega)]
      rfl
  | succ d ih =>
    intro i hi k hk
    obtain ⟨k, rfl⟩ : ∃ j, k = j + 1 := ⟨k - 1, by omega⟩
    have hw1 := w64 ((i : Int) + 1) (by omega) (by omega)
    rw [nepenthelaw35_ConsoleWords.l0, if_pos (by omega), if_pos (by omega), if_pos (by omega), if_pos rfl, hw1]
    exact ih (i + 1) (by omega) k (by omega)
end Go.Proofs.Ytiogdomjmjiahaa.Own
