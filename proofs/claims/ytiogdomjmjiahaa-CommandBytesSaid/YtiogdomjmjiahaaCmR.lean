/- A command's text, parsed: in plain lists. -/
import Derived.Test.YtiogdomjmjiahaaCmQ
namespace Go.Proofs.Ytiogdomjmjiahaa.Own
open Go.RowKit Go.Proofs.Ytiogdomjmjiahaa.Arr Go.Proofs.Ytiogdomjmjiahaa.QA Go.Proofs.YtiogdomjmjiahaaW.PrintWords Go.Proofs.YtiogdomjmjiahaaW.PrintLast Go.Proofs.YtiogdomjmjiahaaW.PrintMore
set_option linter.unusedVariables false
set_option linter.unusedSimpArgs false
theorem big4_num (l : List Int) (h : l.length = 4) (hb : ∀ x ∈ l, byt x) : big4 (numL l) = l := by
  match l, h with
  | [a, b, c, d], _ =>
    have ha := hb a (by simp)
    have hb' := hb b (by simp)
    have hc := hb c (by simp)
    have hd := hb d (by simp)
    rw [numL_4 a b c d ha hb' hc hd]
    unfold byt at *
    unfold big4
    rw [show (a * 16777216 + b * 65536 + c * 256 + d) / 16777216 % 256 = a by omega, show (a * 16777216 + b * 65536 + c * 256 + d) / 65536 % 256 = b by omega, show (a * 16777216 + b * 65536 + c * 256 + d) / 256 % 256 = c by omega, show (a * 16777216 + b * 65536 + c * 256 + d) % 256 = d by omega]
theorem partF_text (p r : List Int) (hp : p.length ≤ 1048576) : partF (big4 p.length ++ p ++ r) = some (p, r) := by
  have ht : (big4 p.length ++ p ++ r).take 4 = big4 p.length := by rw [List.append_assoc]; exact List.take_left' (big4_len _)
  have hn : numL (big4 (p.length : Int)) = (p.length : Int) := numL_big4 _ ⟨by omega, by omega⟩
  have hl : (big4 (p.length : Int) ++ p ++ r).length = 4 + p.length + r.length := by simp only [List.length_append, big4_len]
  unfold partF
  rw [ht, hn, hl, if_neg (by omega), if_neg (by omega), Int.toNat_natCast]
  have hq : (big4 (p.length : Int) ++ p).length = 4 + p.length := by simp only [List.length_append, big4_len]
  rw [List.take_left' hq, List.drop_left' hq, List.drop_left' (big4_len _)]
theorem partF_some (l p r : List Int) (hb : ∀ x ∈ l, byt x) (h : partF l = some (p, r)) : l = big4 p.length ++ p ++ r ∧ p.length ≤ 1048576 := by
  unfold partF at h
  by_cases h4 : l.length < 4
  · rw [if_pos h4] at h; cases h
  rw [if_neg h4] at h
  obtain ⟨m, hm, -⟩ := numL_take4 l (by omega) hb
  rw [hm] at h
  by_cases ho : (m : Int) > 1048576 ∨ (m : Int) > (l.length : Int) - 4
  · rw [if_pos ho] at h; cases h
  rw [if_neg ho, Int.toNat_natCast] at h
  obtain ⟨rfl, rfl⟩ := Prod.mk.inj (Option.some.inj h)
  have hl : ((l.take (4 + m)).drop 4).length = m := by rw [List.length_drop, List.length_take]; omega
  refine ⟨?_, by omega⟩
  rw [hl, ← hm, big4_num _ (by rw [List.length_take]; omega) (fun x hx => hb x (List.mem_of_mem_take hx))]
  have e : l.take 4 = (l.take (4 + m)).take 4 := by rw [List.take_take]; congr 1; omega
  rw [e, List.take_append_drop, List.take_append_drop]
/-- The command of a text; none: there is none. -/
def parseF (l : List Int) : Option ((Int × Int × Int × Int) × List Int × List Int) :=
  if l.length < 16 then none else
    (partF (l.drop 16)).bind fun p => (partF p.2).bind fun d => if d.2.length > 0 then none else
      some ((numL (l.take 4), numL ((l.drop 4).take 4), numL ((l.drop 8).take 4), numL ((l.drop 12).take 4)), p.1, d.1)
theorem head4 (a0 a1 a2 a3 : Int) : headL [a0, a1, a2, a3] 4 = big4 a0 ++ (big4 a1 ++ (big4 a2 ++ big4 a3)) := by simp [headL]
theorem parseF_text (a0 a1 a2 a3 : Int) (P D : List Int) (h : fits6 a0 a1 a2 a3 P D) : parseF (textL a0 a1 a2 a3 P D) = some ((a0, a1, a2, a3), P, D) := by
  obtain ⟨⟨h0, h1, h2, h3⟩, hP, hD⟩ := h
  have e : textL a0 a1 a2 a3 P D = big4 a0 ++ (big4 a1 ++ (big4 a2 ++ (big4 a3 ++ (big4 P.length ++ P ++ (big4 D.length ++ D ++ []))))) := by
    unfold textL; rw [head4]; simp only [List.append_assoc, List.append_nil]
  rw [e]
  have d4 : ∀ (x : Int) (r : List Int), (big4 x ++ r).drop 4 = r := fun x r => List.drop_left' (big4_len x)
  have t4 : ∀ (x : Int) (r : List Int), (big4 x ++ r).take 4 = big4 x := fun x r => List.take_left' (big4_len x)
  have dd : ∀ (l : List Int) (a b : Nat), l.drop (a + b) = (l.drop a).drop b := fun l a b => by rw [List.drop_drop]
  unfold parseF
  rw [if_neg (by simp only [List.length_append, big4_len]; omega)]
  rw [show (16 : Nat) = 4 + (4 + (4 + 4)) from rfl, show (12 : Nat) = 4 + (4 + 4) from rfl, show (8 : Nat) = 4 + 4 from rfl]
  simp only [dd, d4, t4]
  rw [partF_text P _ hP, Option.bind_some, partF_text D _ hD, Option.bind_some, if_neg (by simp), numL_big4 _ h0, numL_big4 _ h1, numL_big4 _ h2, numL_big4 _ h3]
theorem parseF_some (l : List Int) (hb : ∀ x ∈ l, byt x) (ns : Int × Int × Int × Int) (P D : List Int) (h : parseF l = some (ns, P, D)) :
    fits6 ns.1 ns.2.1 ns.2.2.1 ns.2.2.2 P D ∧ textL ns.1 ns.2.1 ns.2.2.1 ns.2.2.2 P D = l := by
  unfold parseF at h
  by_cases h16 : l.length < 16
  · rw [if_pos h16] at h; cases h
  rw [if_neg h16] at h
  cases hp : partF (l.drop 16) with
  | none => rw [hp] at h; cases h
  | some p =>
    obtain ⟨p, r⟩ := p
    rw [hp, Option.bind_some] at h
    dsimp only at h
    cases hd : partF r with
    | none => rw [hd] at h; cases h
    | some d =>
      obtain ⟨d, e⟩ := d
      rw [hd, Option.bind_some] at h
      dsimp only at h
      by_cases he : e.length > 0
      · rw [if_pos he] at h; cases h
      rw [if_neg he] at h
      have e0 : e = [] := List.length_eq_zero_iff.1 (by omega)
      subst e0
      obtain ⟨rfl, hPD⟩ := Prod.mk.inj (Option.some.inj h)
      obtain ⟨rfl, rfl⟩ := Prod.mk.inj hPD
      have hb16 : ∀ x ∈ l.drop 16, byt x := fun x hx => hb x (List.mem_of_mem_drop hx)
      obtain ⟨q1, q2⟩ := partF_some _ _ _ hb16 hp
      have hbr : ∀ x ∈ r, byt x := fun x hx => hb16 x (by rw [q1]; simp [hx])
      obtain ⟨q3, q4⟩ := partF_some _ _ _ hbr hd
      have hf : ∀ k, k + 4 ≤ l.length → fit (numL ((l.drop k).take 4)) ∧ big4 (numL ((l.drop k).take 4)) = (l.drop k).take 4 := by
        intro k hk
        have hbk : ∀ x ∈ l.drop k, byt x := fun x hx => hb x (List.mem_of_mem_drop hx)
        obtain ⟨m, hm, hm2⟩ := numL_take4 (l.drop k) (by rw [List.length_drop]; omega) hbk
        exact ⟨by rw [hm]; exact ⟨by omega, by omega⟩, big4_num _ (by rw [List.length_take, List.length_drop]; omega) (fun x hx => hbk x (List.mem_of_mem_take hx))⟩
      have f0 := hf 0 (by omega)
      have f1 := hf 4 (by omega)
      have f2 := hf 8 (by omega)
      have f3 := hf 12 (by omega)
      rw [List.drop_zero] at f0
      refine ⟨⟨⟨f0.1, f1.1, f2.1, f3.1⟩, q2, q4⟩, ?_⟩
      unfold textL
      rw [head4, f0.2, f1.2, f2.2, f3.2]
      rw [List.append_nil] at q3
      have e2 : l.take 4 ++ ((l.drop 4).take 4 ++ ((l.drop 8).take 4 ++ (l.drop 12).take 4)) ++ l.drop 16 = l := by
        have s : ∀ k, (l.drop k).take 4 ++ l.drop (k + 4) = l.drop k := fun k => by rw [← List.drop_drop, List.take_append_drop]
        have s0 := s 0
        rw [List.drop_zero] at s0
        simp only [List.append_assoc]
        rw [s 12, s 8, s 4, s0]
      conv => rhs; rw [← e2, q1, q3]
      simp only [List.append_assoc]
end Go.Proofs.Ytiogdomjmjiahaa.Own
