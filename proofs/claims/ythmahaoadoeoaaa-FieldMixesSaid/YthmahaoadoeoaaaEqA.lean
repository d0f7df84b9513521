/- Two arrays of whole numbers, compared: as their lists. -/
import Derived.Test.YthmahaoadoeoaaaArr
namespace Go.Proofs.Ythmahaoadoeoaaa.Arr
open Go.RowKit
section
variable {P : Program}
theorem run_eqElem (d : Nat) (E : TypeId) (k k' : IntKind) (hE : P.underlying E = some (.int k')) (xs ys : List Int) (i : Nat) (hx : i < xs.length) (hy : i < ys.length) (w : World) :
    (do let a ← part E (ints k xs) (i * 1); let b ← part E (ints k ys) (i * 1); Op.equalIn (d + 1) E a b : Sem Bool).run P w = .ok (xs.getD i 0 == ys.getD i 0) w := by
  have hag : (isAgg E).run P w = .ok false w := by
    unfold isAgg
    rw [Sem.run_bind, run_underlying hE w]
    rfl
  have hp : ∀ l : List Int, i < l.length → (part E (ints k l) (i * 1)).run P w = .ok (.int k (l.getD i 0)) w := by
    intro l hl
    unfold part
    rw [Sem.run_bind, hag]
    simp only [Result.andThen_ok, Bool.false_eq_true, if_false, Nat.mul_one]
    rw [ints_get k l i hl]
    rfl
  simp only [Sem.run_bind, hp xs hx, hp ys hy, Result.andThen_ok]
  exact run_equalIn_int w d E k k' _ _ hE
theorem run_equalIn_ints (d : Nat) (T E : TypeId) (n : Nat) (k k' : IntKind) (xs ys : List Int) (hu : P.underlying T = some (.array n E)) (hE : P.underlying E = some (.int k')) (hs : (P.info? E).map (·.size) = some 1)
    (hx : xs.length = n) (hy : ys.length = n) (w : World) :
    (Op.equalIn (d + 2) T (.agg (ints k xs)) (.agg (ints k ys))).run P w = .ok (decide (xs = ys)) w := by
  have hz' : (sizeOf E).run P w = .ok 1 w := by
    cases hq : P.info? E with
    | none => simp [hq] at hs
    | some ie =>
      have hz : ie.size = 1 := by simpa [hq] using hs
      simp [sizeOf, typeInfo, hq, hz]
  rw [Op.equalIn]
  simp only [Sem.run_bind, run_underlying hu, Result.andThen_ok, hz']
  rw [Std.Legacy.Range.forIn_eq_forIn_range']
  have hr : List.range' [:n].start [:n].size [:n].step = List.range' 0 n := by
    simp [Std.Legacy.Range.size]
  rw [hr]
  have key : ∀ L : List Nat, (∀ i ∈ L, i < n) → (forIn L ((none, ()) : Option Bool × Unit) (fun i _ => do
            let a ← part E (ints k xs) (i * 1)
            let b ← part E (ints k ys) (i * 1)
            let r ← Op.equalIn (d + 1) E a b
            if (!r) = true then pure (ForInStep.done (some false, ())) else pure (ForInStep.yield (none, ()))) : Sem (Option Bool × Unit)).run P w =
          .ok (if L.all (fun i => xs.getD i 0 == ys.getD i 0) then (none, ()) else (some false, ())) w := by
    intro L
    induction L with
    | nil => intro _; rfl
    | cons i L ih =>
      intro hL
      have he := run_eqElem (P := P) d E k k' hE xs ys i (by have := hL i (by simp); omega) (by have := hL i (by simp); omega) w
      simp only [Sem.run_bind] at he
      rw [List.forIn_cons]
      simp only [Sem.run_bind]
      cases h1 : (part E (ints k xs) (i * 1)).run P w with
      | halt x w1 => rw [h1] at he; cases he
      | ok a w1 =>
        rw [h1] at he
        simp only [Result.andThen_ok] at he ⊢
        cases h2 : (part E (ints k ys) (i * 1)).run P w1 with
        | halt x w2 => rw [h2] at he; cases he
        | ok b w2 =>
          rw [h2] at he
          simp only [Result.andThen_ok] at he ⊢
          rw [he]
          simp only [Result.andThen_ok, List.all_cons]
          by_cases hc : (xs.getD i 0 == ys.getD i 0) = true
          · have := ih (fun j hj => hL j (by simp [hj]))
            simp only [hc, Bool.not_true, Bool.false_eq_true, if_false, Sem.run_pure, Result.andThen_ok, Bool.true_and]
            exact this
          · have hc := Bool.eq_false_iff.2 hc
            simp only [hc, Bool.not_false, if_true, Sem.run_pure, Result.andThen_ok, Bool.false_and, Bool.false_eq_true, if_false]
  rw [key _ (fun i hi => by simp at hi; omega)]
  have hall : (List.range' 0 n).all (fun i => xs.getD i 0 == ys.getD i 0) = decide (xs = ys) := by
    rw [Bool.eq_iff_iff, List.all_eq_true, decide_eq_true_iff]
    constructor
    · intro h
      apply List.ext_getElem (by omega)
      intro j h1 h2
      have := h j (by simp; omega)
      simpa [h1, h2] using this
    · rintro rfl j _
      simp
  rw [hall]
  by_cases h : xs = ys
  · simp [h, Result.andThen]
  · simp [h, Result.andThen]
/-- The operation '==' on two arrays of whole numbers. -/
theorem run_eql_ints (T E : TypeId) (n : Nat) (k k' : IntKind) (xs ys : List Int) (hu : P.underlying T = some (.array n E)) (hE : P.underlying E = some (.int k')) (hs : (P.info? E).map (·.size) = some 1)
    (hx : xs.length = n) (hy : ys.length = n) (w : World) :
    (binOp .eql T (.agg (ints k xs)) (.agg (ints k ys))).run P w = .ok (.bool (decide (xs = ys))) w := by
  have h := run_equalIn_ints (P := P) (Op.maxDepth - 2) T E n k k' xs ys hu hE hs hx hy w
  have hm : Op.maxDepth - 2 + 2 = Op.maxDepth := by decide
  rw [hm] at h
  simp only [binOp, Op.equal, Sem.run_bind, h, Result.andThen_ok, Sem.run_pure]
theorem run_eqGuard_plain (T : TypeId) (x y : Operand) (a b : Array Value) (h : P.eqGuardType P.depth T = false) (w : World) : (eqGuard .eql T x y (.agg a) (.agg b)).run P w = .ok () w := by
  simp [eqGuard, h]
end
end Go.Proofs.Ythmahaoadoeoaaa.Arr
