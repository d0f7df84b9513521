/- PwC, pruned (slim.py). -/
import Derived.Test.YtiogdomjmjiahaaZC28
import Derived.Test.YtiogdomjmjiahaaZC30
namespace Go.Proofs.Ytiogdomjmjiahaa.Own
open Go.RowKit Go.Proofs.Ytiogdomjmjiahaa.Arr Go.Proofs.Ytiogdomjmjiahaa.QA Go.Proofs.Ytiogdomjmjiahaa.QB Go.Proofs.Ytiogdomjmjiahaa.QC Go.Proofs.YtiogdomjmjiahaaW.PrintWords Go.Proofs.YtiogdomjmjiahaaW.PrintLast Go.Proofs.YtiogdomjmjiahaaW.PrintMore
set_option linter.unusedVariables false
set_option linter.unusedSimpArgs false
def wordy (l : List Int) : Prop := 0 < l.length ∧ ∀ x ∈ l, 45 ≤ x
theorem digM_ge (f : Nat) : ∀ (m : Nat), ∀ x ∈ digM f m, 45 ≤ x := by
  induction f with
  | zero => intro m x hx; simp [digM] at hx
  | succ f ih =>
    intro m x hx
    unfold digM at hx
    split at hx
    · simp at hx
    · rcases List.mem_cons.1 hx with rfl | h
      · omega
      · exact ih _ x h
theorem decL_wordy (n : Nat) : wordy (decL n) := by
  refine ⟨by unfold decL; simp, fun x hx => ?_⟩
  unfold decL at hx
  rw [List.mem_reverse] at hx
  rcases List.mem_cons.1 hx with rfl | h
  · omega
  · exact digM_ge _ _ x h
theorem numLs_wordy (n : Int) : wordy (numLs n) := by
  unfold numLs
  split
  · refine ⟨by simp, fun x hx => ?_⟩
    rcases List.mem_cons.1 hx with rfl | h
    · omega
    · exact (decL_wordy _).2 x h
  · exact decL_wordy _
theorem hexD_ge (d : Nat) : 45 ≤ hexD d := by unfold hexD; split <;> omega
theorem hexW_wordy (l : List Int) : wordy (hexW l) := by
  unfold hexW
  split
  · exact ⟨by simp, by intro x hx; simp at hx; omega⟩
  · refine ⟨by rw [hexL_length]; omega, fun x hx => ?_⟩
    unfold hexL at hx
    obtain ⟨y, -, hy⟩ := List.mem_flatMap.1 hx
    unfold hex2 at hy
    simp at hy
    rcases hy with rfl | rfl <;> exact hexD_ge _
def lineOk (l : List Int) : Prop := 0 < l.length ∧ l.getD (l.length - 1) 0 ≠ 10
theorem lineOk_word {b m : List Int} (h : lineOk b) (hm : wordy m) : wordL b m = b ++ [32] ++ m ∧ lineOk (wordL b m) := by
  have e : wordL b m = b ++ [32] ++ m := by unfold wordL sepL; rw [if_pos ⟨h.1, h.2⟩]
  refine ⟨e, ?_⟩
  rw [e]
  have hl : (b ++ [32] ++ m).length = b.length + 1 + m.length := by simp; omega
  refine ⟨by omega, ?_⟩
  have hm0 := hm.1
  rw [List.getD_eq_getElem?_getD, List.getElem?_append_right (by rw [hl]; simp; omega), List.getElem?_eq_getElem (by rw [hl]; simp; omega), Option.getD_some]
  have := hm.2 _ (List.getElem_mem (l := m) (n := (b ++ [32] ++ m).length - 1 - (b ++ [32]).length) (by rw [hl]; simp; omega))
  omega
theorem wStep_bad (a1 a2 a3 : Int) (P D L : List Int) (x : Int) : (wStep a1 a2 a3 P D (L, true) x).2 = true := by
  unfold wStep numW
  repeat' split
  all_goals rfl
theorem foldl_bad (a1 a2 a3 : Int) (P D : List Int) : ∀ (m L : List Int), (m.foldl (wStep a1 a2 a3 P D) (L, true)).2 = true := by
  intro m
  induction m with
  | nil => intro L; rfl
  | cons x m ih =>
    intro L
    rw [List.foldl_cons]
    have h := wStep_bad a1 a2 a3 P D L x
    generalize wStep a1 a2 a3 P D (L, true) x = p at h ⊢
    obtain ⟨L', b'⟩ := p
    have h : b' = true := h
    subst h
    exact ih L'
theorem ext_one (m : List Int) (i : Nat) (hi : i < m.length) : ((strOfNums m).extract i (i + 1)).toList = [UInt8.ofNat (m.getD i 0).toNat] := by
  rw [ByteArray.toList_eq, ByteArray.data_extract, Array.toList_extract, strOfNums_data]
  rw [List.extract_eq_take_drop, Nat.add_sub_cancel_left, List.take_one, List.head?_drop, List.getElem?_map, List.getElem?_eq_getElem hi]
  simp [List.getD_eq_getElem?_getD, List.getElem?_eq_getElem hi]
theorem refHex35_eq (l : List Int) (h : ∀ x ∈ l, byt x) (hl : l.length ≤ 1000000) : nepentheref35_Hex.f l = some (strOfNums (hexW l)) := by
  unfold nepentheref35_Hex.f hexW
  by_cases h0 : l.length = 0
  · rw [if_pos (by omega), if_pos h0]; rfl
  · rw [if_neg (by omega), if_neg h0]
    unfold nepentheref01_Hex.f
    rw [if_pos ⟨by omega, h⟩]; rfl
theorem may_eq (n : Int) : nepentheref35_may.f n = some (decide (0 ≤ n ∧ n ≤ 999999999)) := by
  unfold nepentheref35_may.f
  by_cases h : 0 ≤ n
  · rw [if_pos h]; congr 1; exact decide_eq_decide.2 ⟨fun h2 => ⟨h, h2⟩, fun h2 => h2.2⟩
  · rw [if_neg h, decide_eq_false (by omega)]
theorem strL_ne {l : List Int} (h : 0 < l.length) : ¬ (strOfNums l).toList = ([] : List UInt8) := by
  intro e
  have : (strOfNums l).toList.length = 0 := by rw [e]; rfl
  rw [ByteArray.toList_eq, strOfNums_data, List.length_map] at this
  omega
def refRes (s : List Int × Bool) : ByteArray × Bool := if s.2 = true then (⟨#[]⟩, false) else (strOfNums s.1, true)
theorem nil_toList2 : (⟨#[]⟩ : ByteArray).toList = [] := by rw [ByteArray.toList_eq]
theorem str32 (L l : List Int) : (strOfNums L ++ (⟨#[32]⟩ : ByteArray)) ++ strOfNums l = strOfNums (L ++ [32] ++ l) := by
  rw [str_app, str_app]; rfl
theorem ref_j2_num (a0 a1 a2 a3 n : Int) (P D L : List Int) (x5 : ByteArray) (i : Nat) (k : Nat) (hk : 30 ≤ k) (hL : L.length ≤ 1000000000) (hi : i ≤ 10) :
    nepentheref35_Word.j2 (k + 1) (strOfNums L) x5 (i : Int) n (⟨#[]⟩ : ByteArray) a0 a1 a2 a3 P D = if 0 ≤ n ∧ n ≤ 999999999 then nepentheref35_Word.l0 k (strOfNums (L ++ [32] ++ numLs n)) x5 ((i + 1 : Nat) : Int) a0 a1 a2 a3 P D else some (⟨#[]⟩, false) := by
  rw [nepentheref35_Word.j2, may_eq, Option.bind_some]
  by_cases h : 0 ≤ n ∧ n ≤ 999999999
  · rw [decide_eq_true h, if_pos rfl, if_pos h, if_pos nil_toList2]
    obtain ⟨k', rfl⟩ : ∃ k', k = k' + 30 := ⟨k - 30, by omega⟩
    have hs := numLs_len n
    have hz : (strOfNums L ++ (⟨#[32]⟩ : ByteArray)).size = L.length + 1 := by rw [ByteArray.size_append, strOfNums_size]; rfl
    rw [refNumber_eq n (by omega) (by omega), Option.bind_some, if_pos (by rw [strOfNums_size]; omega), hz, if_pos (by show L.length + 1 + (strOfNums (numLs n)).size ≤ _; rw [strOfNums_size]; omega), w64 ((i : Int) + 1) (by omega) (by omega)]
    show nepentheref35_Word.l0 _ ((strOfNums L ++ (⟨#[32]⟩ : ByteArray)) ++ strOfNums (numLs n)) _ _ _ _ _ _ _ _ = _
    rw [str32]
    rfl
  · rw [decide_eq_false h, if_neg (by simp), if_neg h]
theorem ref_j2_word (a0 a1 a2 a3 : Int) (P D L l : List Int) (hl0 : 0 < l.length) (hl : l.length ≤ 100000000) (x5 : ByteArray) (i : Nat) (k : Nat) (hL : L.length ≤ 1000000000) (hi : i ≤ 10) :
    nepentheref35_Word.j2 (k + 1) (strOfNums L) x5 (i : Int) 0 (strOfNums l) a0 a1 a2 a3 P D = nepentheref35_Word.l0 k (strOfNums (L ++ [32] ++ l)) x5 ((i + 1 : Nat) : Int) a0 a1 a2 a3 P D := by
  have hz : (strOfNums L ++ (⟨#[32]⟩ : ByteArray)).size = L.length + 1 := by rw [ByteArray.size_append, strOfNums_size]; rfl
  rw [nepentheref35_Word.j2, may_eq, Option.bind_some, decide_eq_true (by omega), if_pos rfl, if_neg (strL_ne hl0), if_pos (by rw [strOfNums_size]; omega), hz, if_pos (by rw [strOfNums_size]; omega), w64 ((i : Int) + 1) (by omega) (by omega), str32]
  rfl
theorem word_loop (a0 a1 a2 a3 : Int) (P D m : List Int) (hP : ∀ x ∈ P, byt x) (hPl : P.length ≤ 1000000) (hD : ∀ x ∈ D, byt x) (hDl : D.length ≤ 1000000) (hm : m.length ≤ 3) (hmx : ∀ x ∈ m, x = 112 ∨ x = 100 ∨ x = 110 ∨ x = 108 ∨ x = 99) :
    ∀ (d i : Nat) (L : List Int), i + d = m.length → lineOk L → L.length ≤ 100 + i * 3000000 → ∀ k, 2 * d + 40 ≤ k →
      nepentheref35_Word.l0 k (strOfNums L) (strOfNums m) (i : Int) a0 a1 a2 a3 P D = some (refRes ((m.drop i).foldl (wStep a1 a2 a3 P D) (L, false))) := by
  intro d
  induction d with
  | zero =>
    intro i L hi hL hLl k hk
    obtain ⟨k, rfl⟩ : ∃ j, k = j + 1 := ⟨k - 1, by omega⟩
    rw [nepentheref35_Word.l0, strOfNums_size, if_neg (by omega), List.drop_eq_nil_of_le (by omega)]
    rfl
  | succ d ih =>
    intro i L hi hL hLl k hk
    obtain ⟨k, rfl⟩ : ∃ j, k = j + 2 := ⟨k - 2, by omega⟩
    have hlt : i < m.length := by omega
    have hw := w64 ((i : Int) + 1) (by omega) (by omega)
    have hx1 : ((strOfNums m).extract ((i : Int)).toNat ((i : Int) + 1).toNat).toList = [UInt8.ofNat (m.getD i 0).toNat] := by
      rw [Int.toNat_natCast, show ((i : Int) + 1).toNat = i + 1 by omega]
      exact ext_one m i hlt
    have hdrop : m.drop i = m.getD i 0 :: m.drop (i + 1) := by
      rw [List.drop_eq_getElem_cons hlt]
      simp [List.getD_eq_getElem?_getD, List.getElem?_eq_getElem hlt]
    have hxm : m.getD i 0 ∈ m := by
      rw [List.getD_eq_getElem?_getD, List.getElem?_eq_getElem hlt]; exact List.getElem_mem hlt
    obtain ⟨x, hx⟩ : ∃ x, x = m.getD i 0 := ⟨_, rfl⟩
    rw [← hx] at hx1 hdrop hxm
    rw [nepentheref35_Word.l0, strOfNums_size, if_pos (by omega), if_pos (by omega), hw, if_pos (by omega), if_pos (by omega), hx1, hdrop, List.foldl_cons]
    have number : ∀ n : Int, (if 0 ≤ n ∧ n ≤ 999999999 then nepentheref35_Word.l0 k (strOfNums (L ++ [32] ++ numLs n)) (strOfNums m) ((i + 1 : Nat) : Int) a0 a1 a2 a3 P D else some (⟨#[]⟩, false)) = some (refRes ((m.drop (i + 1)).foldl (wStep a1 a2 a3 P D) (numW (L, false) n))) := by
      intro n
      unfold numW
      by_cases h : 0 ≤ n ∧ n ≤ 999999999
      · rw [if_pos h, if_pos h]
        obtain ⟨e, hok⟩ := lineOk_word hL (numLs_wordy n)
        have := numLs_len n
        have hlen : (wordL L (numLs n)).length ≤ 100 + (i + 1) * 3000000 := by rw [e]; simp only [List.length_append, List.length_singleton]; omega
        rw [← e]
        exact ih (i + 1) _ (by omega) hok hlen k (by omega)
      · rw [if_neg h, if_neg h]
        unfold refRes
        rw [if_pos (foldl_bad a1 a2 a3 P D _ L)]
    have word : ∀ l : List Int, wordy l → l.length ≤ 2000001 → nepentheref35_Word.l0 k (strOfNums (L ++ [32] ++ l)) (strOfNums m) ((i + 1 : Nat) : Int) a0 a1 a2 a3 P D = some (refRes ((m.drop (i + 1)).foldl (wStep a1 a2 a3 P D) (wordL L l, false))) := by
      intro l hl hll
      obtain ⟨e, hok⟩ := lineOk_word hL hl
      have hlen : (wordL L l).length ≤ 100 + (i + 1) * 3000000 := by rw [e]; simp only [List.length_append, List.length_singleton]; omega
      rw [← e]
      exact ih (i + 1) _ (by omega) hok hlen k (by omega)
    have hL9 : L.length ≤ 1000000000 := by omega
    rcases hmx x hxm with rfl | rfl | rfl | rfl | rfl
    · rw [if_neg (by decide), if_neg (by decide), if_neg (by decide), if_pos (by decide), refHex35_eq P hP hPl, Option.bind_some, ref_j2_word a0 a1 a2 a3 P D L (hexW P) (hexW_wordy P).1 (by have := hexW_len P; omega) _ i k hL9 (by omega), word _ (hexW_wordy P) (by have := hexW_len P; omega)]
      rfl
    · rw [if_neg (by decide), if_neg (by decide), if_neg (by decide), if_neg (by decide), if_pos (by decide), refHex35_eq D hD hDl, Option.bind_some, ref_j2_word a0 a1 a2 a3 P D L (hexW D) (hexW_wordy D).1 (by have := hexW_len D; omega) _ i k hL9 (by omega), word _ (hexW_wordy D) (by have := hexW_len D; omega)]
      rfl
    · rw [if_pos (by decide), ref_j2_num a0 a1 a2 a3 a1 P D L _ i k (by omega) hL9 (by omega), number a1]
      rfl
    · rw [if_neg (by decide), if_pos (by decide), ref_j2_num a0 a1 a2 a3 a2 P D L _ i k (by omega) hL9 (by omega), number a2]
      rfl
    · rw [if_neg (by decide), if_neg (by decide), if_pos (by decide), ref_j2_num a0 a1 a2 a3 a3 P D L _ i k (by omega) hL9 (by omega), number a3]
      rfl
theorem refAsks_eq (a : Int) (h1 : 1 ≤ a) (h2 : a ≤ 15) : nepentheref35_Asks.f a = some (strOfNums (asksL a)) := by
  rcases kinds15 a h1 h2 with rfl | rfl | rfl | rfl | rfl | rfl | rfl | rfl | rfl | rfl | rfl | rfl | rfl | rfl | rfl <;> rfl
theorem refName_eq (a : Int) (h1 : 1 ≤ a) (h2 : a ≤ 15) : nepentheref28_Name.f a = some (strOfNums (nameL a)) := by
  rw [nameL_eq]
  rcases kinds15 a h1 h2 with rfl | rfl | rfl | rfl | rfl | rfl | rfl | rfl | rfl | rfl | rfl | rfl | rfl | rfl | rfl <;> rfl
theorem asksL_in (a : Int) : ∀ x ∈ asksL a, x = 112 ∨ x = 100 ∨ x = 110 ∨ x = 108 ∨ x = 99 := by
  unfold asksL
  repeat' split
  all_goals simp
theorem refWord_eq (a0 a1 a2 a3 : Int) (P D : List Int) (hP : ∀ x ∈ P, byt x) (hPl : P.length ≤ 1000000) (hD : ∀ x ∈ D, byt x) (hDl : D.length ≤ 1000000) :
    nepentheref35_Word.f 60 a0 a1 a2 a3 P D = some (refRes (wCmd a0 a1 a2 a3 P D ([], false))) := by
  unfold nepentheref35_Word.f wCmd
  by_cases h : 1 ≤ a0 ∧ a0 ≤ 15
  · obtain ⟨h1, h2⟩ := h
    have hn := nameL_len a0 h1 h2
    rw [if_neg (by omega), decide_eq_false (by omega), nepentheref35_Word.j0, if_neg (by simp), refName_eq a0 h1 h2, refAsks_eq a0 h1 h2, Option.bind_some, Option.bind_some, if_pos ⟨h1, h2⟩]
    have e : wordL [] (nameL a0) = nameL a0 := by unfold wordL sepL; rfl
    have := word_loop a0 a1 a2 a3 P D (asksL a0) hP hPl hD hDl (asksL_len a0) (asksL_in a0) (asksL a0).length 0 (nameL a0) (by omega) ⟨hn.1, hn.2.2⟩ (by omega) 59 (by have := asksL_len a0; omega)
    rw [List.drop_zero] at this
    simp only [e]
    exact this
  · rw [if_neg h]
    by_cases h1 : a0 < 1
    · rw [if_pos h1, nepentheref35_Word.j0, if_pos rfl]; rfl
    · rw [if_neg h1, decide_eq_true (by omega), nepentheref35_Word.j0, if_pos rfl]; rfl
end Go.Proofs.Ytiogdomjmjiahaa.Own
