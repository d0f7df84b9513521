/- nepenthelaw28.text, walked; bytes and commands, compared. -/
import Derived.Test.YtiogdomjmjiahaaCmX
import Derived.Test.YtiogdomjmjiahaaQBx1
namespace Go.Proofs.Ytiogdomjmjiahaa.Own
open Go.RowKit Go.Proofs.Ytiogdomjmjiahaa.Arr Go.Proofs.Ytiogdomjmjiahaa.QA Go.Proofs.Ytiogdomjmjiahaa.QB Go.Proofs.YtiogdomjmjiahaaW.PrintWords Go.Proofs.YtiogdomjmjiahaaW.PrintLast Go.Proofs.YtiogdomjmjiahaaW.PrintMore
set_option linter.unusedVariables false
set_option linter.unusedSimpArgs false
theorem rd_nat (l : List Int) (i : Nat) : rd l (i : Int) = l.getD i 0 := by unfold rd; rw [Int.toNat_natCast]
theorem drop_cons (a : List Int) (i : Nat) (h : i < a.length) : a.drop i = a.getD i 0 :: a.drop (i + 1) := by
  rw [List.drop_eq_getElem_cons h, List.getD_eq_getElem?_getD, List.getElem?_eq_getElem h]; rfl
theorem same_dec_l (a b : List Int) (h : a.length = b.length) (hl : a.length ≤ 281474976710656) (d : Nat) : ∀ i, i + d = a.length → ∀ k, nepentheref01_SameBytes.l0 (k + d + 1) a b (i : Int) = some (decide (a.drop i = b.drop i)) := by
  induction d with
  | zero =>
    intro i hi k
    rw [nepentheref01_SameBytes.l0, if_neg (by omega), List.drop_eq_nil_of_le (by omega), List.drop_eq_nil_of_le (by omega)]
    simp
  | succ d ih =>
    intro i hi k
    have := ih (i + 1) (by omega) k
    rw [show ((i + 1 : Nat) : Int) = (i : Int) + 1 from by omega] at this
    rw [show k + (d + 1) + 1 = (k + d + 1) + 1 from by omega, nepentheref01_SameBytes.l0, if_pos (by omega), if_pos (by omega), if_pos (by omega), w64 _ (by omega) (by omega), rd_nat, rd_nat, this, drop_cons a i (by omega), drop_cons b i (by omega)]
    by_cases e : a.getD i 0 = b.getD i 0
    · rw [if_pos e, e]; simp
    · rw [if_neg e, decide_eq_false (fun h => e (List.cons.inj h).1)]
theorem same_dec (a b : List Int) (hl : a.length ≤ 281474976710656) (k : Nat) : nepentheref01_SameBytes.f (k + a.length + 1) a b = some (decide (a = b)) := by
  unfold nepentheref01_SameBytes.f
  by_cases h : a.length = b.length
  · rw [if_pos (by omega)]
    have := same_dec_l a b h hl a.length 0 (by omega) k
    rw [List.drop_zero, List.drop_zero] at this
    exact this
  · rw [if_neg (by omega)]
    congr 1
    exact (decide_eq_false (fun e => h (by rw [e]))).symm
theorem same_any (a b : List Int) (hl : a.length ≤ 281474976710656) (w : World) (A0 : Option Addr) (c0 : Nat) (A1 : Option Addr) (c1 : Nat) (hr0 : Kd.C (Kd.int .u8) w A0 a.length a) (hc0 : a.length ≤ c0) (hr1 : Kd.C (Kd.int .u8) w A1 b.length b) (hc1 : b.length ≤ c1) :
    Calls Try.prog 21 #[.slice A0 a.length c0, .slice A1 b.length c1] w fun e w' => e = .returned (.bool (decide (a = b))) ∧ Drawn0 w w' :=
  nepentheref01_SameBytes.calls _ A0 c0 a A1 c1 b _ w hr0 hc0 hr1 hc1 (same_dec a b hl 0)
theorem sameCmd_any (a0 a1 a2 a3 : Int) (P D : List Int) (hP : P.length ≤ 281474976710656) (hD : D.length ≤ 281474976710656) (w : World) (A0 : Option Addr) (c0 : Nat) (B0 : Option Addr) (d0 : Nat) (A1 : Option Addr) (c1 : Nat) (B1 : Option Addr) (d1 : Nat)
    (hA0 : Kd.C (Kd.int .u8) w A0 P.length P) (hc0 : P.length ≤ c0) (hB0 : Kd.C (Kd.int .u8) w B0 D.length D) (hd0 : D.length ≤ d0) (hA1 : Kd.C (Kd.int .u8) w A1 P.length P) (hc1 : P.length ≤ c1) (hB1 : Kd.C (Kd.int .u8) w B1 D.length D) (hd1 : D.length ≤ d1) :
    Calls Try.prog 22 #[.agg (ccs a0 a1 a2 a3 A0 P.length c0 B0 D.length d0), .agg (ccs a0 a1 a2 a3 A1 P.length c1 B1 D.length d1)] w fun e w' => e = .returned (.bool true) ∧ Below w.heap.size w w' := by
  refine nepentheref28_Same.calls (P.length + D.length + 1) a0 a1 a2 a3 A0 c0 P B0 d0 D a0 a1 a2 a3 A1 c1 P B1 d1 D true w hA0 hc0 hB0 hd0 hA1 hc1 hB1 hd1 ?_
  unfold nepentheref28_Same.f
  have e1 := same_dec P P hP D.length
  have e2 := same_dec D D hD P.length
  rw [show D.length + P.length + 1 = P.length + D.length + 1 by omega] at e1
  rw [if_pos rfl, if_pos rfl, if_pos rfl, if_pos rfl, e1, e2]
  simp
theorem num4 (a b c d : Int) (ha : byt a) (hb : byt b) (hc : byt c) (hd : byt d) (k : Nat) : nepentheref01_Num.f (k + 10) [a, b, c, d] = some (numL [a, b, c, d]) := by
  rw [numL_4 a b c d ha hb hc hd]
  obtain ⟨a0, a1⟩ := ha
  obtain ⟨b0, b1⟩ := hb
  obtain ⟨c0, c1⟩ := hc
  obtain ⟨d0, d1⟩ := hd
  simp [nepentheref01_Num.f, nepentheref01_Back.f, nepentheref01_Back.l0, nepentheref01_NumLittle.f, nepentheref01_NumLittle.l0, wrap64, rd, mn, IntKind.wrap_u64]
  omega
theorem refNum_any (L : List Int) (hL : L.length = 4) (hb : ∀ x ∈ L, byt x) (w : World) (A : Option Addr) (c : Nat) (hC : Kd.C (Kd.int .u8) w A 4 L) (hc : 4 ≤ c) :
    Calls Try.prog 61 #[.slice A 4 c] w fun e w' => e = .returned (.int .u64 (numL L)) ∧ Below w.heap.size w w' := by
  match L, hL with
  | [a, b, c', d], _ =>
    exact nepentheref01_Num.calls 10 A c [a, b, c', d] _ w hC hc (num4 a b c' d (hb a (by simp)) (hb b (by simp)) (hb c' (by simp)) (hb d (by simp)) 0)
theorem num4_nat (L : List Int) (hL : 4 ≤ L.length) (hb : ∀ x ∈ L, byt x) : ∃ m : Nat, numL (L.take 4) = (m : Int) ∧ m < 4294967296 := numL_take4 L hL hb
/-- Are bytes a command's text? -/
def textB (l : List Int) : Bool := (parseF l).isSome
theorem textB_lo (l : List Int) (h : l.length < 20) : textB l = false := by
  unfold textB parseF
  by_cases h16 : l.length < 16
  · rw [if_pos h16]; rfl
  · rw [if_neg h16]
    have : partF (l.drop 16) = none := by unfold partF; rw [if_pos (by rw [List.length_drop]; omega)]
    rw [this]; rfl
theorem textB_over (l : List Int) (h : 20 ≤ l.length) (n : Nat) (hn : numL ((l.drop 16).take 4) = (n : Int)) (ho : 1048576 < n ∨ l.length < n + 24) : textB l = false := by
  unfold textB parseF
  rw [if_neg (by omega)]
  have hl : (l.drop 16).length = l.length - 16 := List.length_drop
  by_cases h1 : 1048576 < n ∨ (l.drop 16).length < n + 4
  · have : partF (l.drop 16) = none := by unfold partF; rw [if_neg (by omega), hn, if_pos (by omega)]
    rw [this]; rfl
  · have : partF (l.drop 16) = some (((l.drop 16).take (4 + n)).drop 4, (l.drop 16).drop (4 + n)) := by unfold partF; rw [if_neg (by omega), hn, if_neg (by omega), Int.toNat_natCast]
    rw [this, Option.bind_some]
    have : partF ((l.drop 16).drop (4 + n)) = none := by unfold partF; rw [if_pos (by rw [List.length_drop]; omega)]
    rw [this]; rfl
theorem textB_in (l : List Int) (n m : Nat) (h : n + 24 ≤ l.length) (hn : numL ((l.drop 16).take 4) = (n : Int)) (hn2 : n ≤ 1048576) (hm : numL ((l.drop (20 + n)).take 4) = (m : Int)) : textB l = decide (m ≤ 1048576 ∧ m = l.length - 24 - n) := by
  have hl : (l.drop 16).length = l.length - 16 := List.length_drop
  unfold textB parseF
  rw [if_neg (by omega)]
  have e : (l.drop 16).drop (4 + n) = l.drop (20 + n) := by rw [List.drop_drop]; congr 1; omega
  have hr : (l.drop (20 + n)).length = l.length - (20 + n) := List.length_drop
  have : partF (l.drop 16) = some (((l.drop 16).take (4 + n)).drop 4, l.drop (20 + n)) := by unfold partF; rw [if_neg (by omega), hn, if_neg (by omega), Int.toNat_natCast, e]
  rw [this, Option.bind_some]
  dsimp only
  by_cases ho : 1048576 < m ∨ l.length < 24 + n + m
  · have : partF (l.drop (20 + n)) = none := by unfold partF; rw [if_neg (by omega), hm, if_pos (by omega)]
    rw [this, decide_eq_false (by omega)]; rfl
  · have : partF (l.drop (20 + n)) = some (((l.drop (20 + n)).take (4 + m)).drop 4, (l.drop (20 + n)).drop (4 + m)) := by unfold partF; rw [if_neg (by omega), hm, if_neg (by omega), Int.toNat_natCast]
    rw [this, Option.bind_some]
    have hr2 : ((l.drop (20 + n)).drop (4 + m)).length = l.length - (20 + n) - (4 + m) := by rw [List.length_drop, hr]
    by_cases he : m = l.length - 24 - n
    · rw [if_neg (by show ¬ ((l.drop (20 + n)).drop (4 + m)).length > 0; omega), decide_eq_true (by omega)]; rfl
    · rw [if_pos (by show ((l.drop (20 + n)).drop (4 + m)).length > 0; omega), decide_eq_false (by omega)]; rfl
def Says (b : Bool) (w : World) (e : Ending) (w' : World) : Prop := e = .returned (.bool b) ∧ Below w.heap.size w w'
set_option maxHeartbeats 4000000 in
set_option maxRecDepth 100000 in
theorem text_any (A : Option Addr) (c : Nat) (l : List Int) (w : World) (hC : Kd.C (Kd.int .u8) w A l.length l) (hc : l.length ≤ c) (hlen : l.length ≤ 140737488351232) (hb : ∀ x ∈ l, byt x) :
    Calls Try.prog 23 #[.slice A l.length c] w (Says (textB l) w) := by
  obtain ⟨i0, hi, -, hs, -⟩ := info_parts info5
  by_cases h20 : l.length < 20
  · rw [textB_lo l h20]
    have h' : (l.length : Int) < 20 := by omega
    clear hC hc hlen hb h20
    go_enter Try.func23, Try.ntmps23
    go_wp2
    go_ret
    exact ⟨rfl, Below.refl _ _⟩
  have hb' : ∀ k, ∀ x ∈ l.drop k, byt x := fun k x hx => hb x (List.mem_of_mem_drop hx)
  obtain ⟨n, hn, hn3⟩ := numL_take4 (l.drop 16) (by rw [List.length_drop]; omega) (hb' 16)
  obtain ⟨B, hcb, hB⟩ := cut2 (P := Try.prog) 25 5 .i64 .i64 .u8 Try.underlying25 hi hs A l.length c 16 20 l (by omega) (by omega) hc
  have hcb1 : ∀ W : World, (Instr.slice 25 (.slice A l.length c) (some (.int .i64 16)) (some (.int .i64 20)) none).run Try.prog W = .ok (.slice B 4 (c - 16)) W := hcb
  have hN1 : ∀ w1, Below w.heap.size w w1 → Calls Try.prog 61 #[.slice B 4 (c - 16)] w1 fun e w' => e = .returned (.int .u64 (n : Int)) ∧ Below w1.heap.size w1 w' := fun w1 h1 => by
    have hr := C_of_readsInt (hB w1 (readsInt_of_C (Kd.C_below hC h1)))
    rw [List.drop_take] at hr
    have := refNum_any ((l.drop 16).take 4) (by rw [List.length_take, List.length_drop]; omega) (fun x hx => hb' 16 x (List.mem_of_mem_take hx)) w1 B (c - 16) hr (by omega)
    rw [hn] at this
    exact this
  obtain ⟨q1, hq1⟩ : ∃ q1, q1 = c - 16 := ⟨_, rfl⟩
  rw [← hq1] at hN1 hcb1
  have hN1' := Lib.hid hN1
  have hl20 : ¬ (l.length : Int) < 20 := by omega
  have hlI : (l.length : Int) ≤ 140737488351232 := by omega
  have hn0 : 0 ≤ (n : Int) := by omega
  have hn1 : (n : Int) ≤ 4294967295 := by omega
  by_cases h1 : 1048576 < n
  · rw [textB_over l (by omega) n hn (.inl h1)]
    have h1' : 1048576 < (n : Int) := by omega
    clear hC hc hlen hb h20 hb' hn hn3 hcb hB hN1 hq1 h1 hi hs
    go_enter Try.func23, Try.ntmps23
    go_wp2_with (go_at_call 61; refine (hN1'.out _ (Below.refl _ _)).mono ?_; rintro e w1 ⟨rfl, hd⟩; have hd' := Lib.hid hd; clear hd)
    go_ret
    exact ⟨rfl, hd'.out⟩
  have h1' : ¬ 1048576 < (n : Int) := by omega
  by_cases h2 : l.length < n + 24
  · rw [textB_over l (by omega) n hn (.inr h2)]
    have h2' : (l.length : Int) - 24 < (n : Int) := by omega
    clear hC hc hlen hb h20 hb' hn hn3 hcb hB hN1 hq1 h1 hi hs h2
    go_enter Try.func23, Try.ntmps23
    go_wp2_with (go_at_call 61; refine (hN1'.out _ (Below.refl _ _)).mono ?_; rintro e w1 ⟨rfl, hd⟩; have hd' := Lib.hid hd; clear hd)
    go_ret
    exact ⟨rfl, hd'.out⟩
  have h2' : ¬ (l.length : Int) - 24 < (n : Int) := by omega
  obtain ⟨m, hm, hm3⟩ := numL_take4 (l.drop (20 + n)) (by rw [List.length_drop]; omega) (hb' _)
  obtain ⟨D, hcd, hD⟩ := cut2 (P := Try.prog) 25 5 .i64 .i64 .u8 Try.underlying25 hi hs A l.length c (20 + n) (24 + n) l (by omega) (by omega) hc
  have e4 : 24 + n - (20 + n) = 4 := by omega
  rw [e4] at hcd hD
  have hN2 : ∀ w1, Below w.heap.size w w1 → Calls Try.prog 61 #[.slice D 4 (c - (20 + n))] w1 fun e w' => e = .returned (.int .u64 (m : Int)) ∧ Below w1.heap.size w1 w' := fun w1 h1 => by
    have hr := C_of_readsInt (hD w1 (readsInt_of_C (Kd.C_below hC h1)))
    rw [List.drop_take, e4] at hr
    have := refNum_any ((l.drop (20 + n)).take 4) (by rw [List.length_take, List.length_drop]; omega) (fun x hx => hb' _ x (List.mem_of_mem_take hx)) w1 D (c - (20 + n)) hr (by omega)
    rw [hm] at this
    exact this
  obtain ⟨q2, hq2⟩ : ∃ q2, q2 = c - (20 + n) := ⟨_, rfl⟩
  rw [← hq2] at hN2 hcd
  rw [show ((20 + n : Nat) : Int) = 20 + (n : Int) by omega, show ((24 + n : Nat) : Int) = 24 + (n : Int) by omega] at hcd
  rw [textB_in l n m (by omega) hn (by omega) hm]
  obtain ⟨r, hr⟩ : ∃ r : Bool, r = decide (m ≤ 1048576 ∧ m = l.length - 24 - n) := ⟨_, rfl⟩
  rw [← hr]
  have hm0 : 0 ≤ (m : Int) := by omega
  have hm1 : (m : Int) ≤ 4294967295 := by omega
  have hN2' := Lib.hid hN2
  by_cases h3 : m ≤ 1048576
  · have h3' : (m : Int) ≤ 1048576 := by omega
    have hr' := Lib.hid (show decide ((m : Int) = (l.length : Int) - 24 - (n : Int)) = r by rw [hr]; exact decide_eq_decide.2 (by omega))
    clear hC hc hlen hb h20 hb' hn hn3 hcb hB hN1 hq1 h1 hi hs h2 hm hm3 hD hN2 hq2 hr h3 e4
    go_enter Try.func23, Try.ntmps23
    go_wp2_with (first
      | ((with_reducible go_at_call 61); refine (hN1'.out _ (Below.refl _ _)).mono ?_; clear hN1'; rintro e w1 ⟨rfl, hd⟩; have hd' := Lib.hid hd; clear hd)
      | ((with_reducible go_at_call 61); refine (hN2'.out _ hd'.out).mono ?_; rintro e w2 ⟨rfl, hd⟩; have hd2 := Lib.hid (below_step hd'.out hd); clear hd))
    go_ret
    refine ⟨?_, hd2.out⟩
    rw [← hr'.out]
    rfl
  · have h3' : ¬ (m : Int) ≤ 1048576 := by omega
    rw [decide_eq_false (by omega)] at hr
    rw [hr]
    clear hC hc hlen hb h20 hb' hn hn3 hcb hB hN1 hq1 h1 hi hs h2 hm hm3 hD hN2 hq2 hr h3 e4
    go_enter Try.func23, Try.ntmps23
    go_wp2_with (first
      | ((with_reducible go_at_call 61); refine (hN1'.out _ (Below.refl _ _)).mono ?_; clear hN1'; rintro e w1 ⟨rfl, hd⟩; have hd' := Lib.hid hd; clear hd)
      | ((with_reducible go_at_call 61); refine (hN2'.out _ hd'.out).mono ?_; rintro e w2 ⟨rfl, hd⟩; have hd2 := Lib.hid (below_step hd'.out hd); clear hd))
    go_ret
    exact ⟨rfl, hd2.out⟩
end Go.Proofs.Ytiogdomjmjiahaa.Own
