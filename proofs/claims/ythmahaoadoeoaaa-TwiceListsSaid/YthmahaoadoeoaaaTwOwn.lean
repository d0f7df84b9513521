/- What twice.Times and twice.Mul answer, and that the code answers so: no condition but that its slice can be read. -/
import Derived.Test.YthmahaoadoeoaaaTwC
import Derived.Test.YthmahaoadoeoaaaTwD
namespace Go.Proofs.Ythmahaoadoeoaaa.Own
open Go.RowKit Go.Proofs.Ythmahaoadoeoaaa.Tw Go.Proofs.YthmahaoadoeoaaaW.PrintWords Go.Proofs.YthmahaoadoeoaaaW.PrintLast Go.Proofs.YthmahaoadoeoaaaW.PrintMore
def twice_Times.f (l0 : List Int) (a1 : Int) : Option (List Int × Int) :=
  if l0.length = 16 ∧ 0 ≤ a1 ∧ a1 ≤ 65536 then some (itD a1.toNat l0, 0) else some ([], 2)
theorem twice_Times.calls (A0 : Option Addr) (c0 : Nat) (l0 : List Int) (a1 : Int) (r1 : List Int) (r2 : Int) (w : World) (hr0 : Kd.C (Kd.int .u8) w A0 l0.length l0) (hc0 : l0.length ≤ c0) (h : twice_Times.f l0 a1 = some (r1, r2)) :
    Calls Try.prog 15 #[.slice A0 l0.length c0, .int .i64 a1] w fun e w' => ∃ v0_ : Value, e = .returned (.tuple #[v0_, .int .i64 r2]) ∧ Kd.R (Kd.int .u8) 5 w' w.heap.size (fun _ => True) v0_ r1 ∧ Below w.heap.size w w' := by
  unfold twice_Times.f at h
  by_cases hc : l0.length = 16 ∧ 0 ≤ a1 ∧ a1 ≤ 65536
  · rw [if_pos hc] at h
    obtain ⟨rfl, rfl⟩ := Prod.mk.inj (Option.some.inj h)
    obtain ⟨hl, h0, h1⟩ := hc
    obtain ⟨n, rfl⟩ := Int.eq_ofNat_of_zero_le h0
    rw [hl] at hr0 hc0 ⊢
    exact times_ok A0 c0 l0 n w hr0 hl hc0 (by omega)
  · rw [if_neg hc] at h
    obtain ⟨rfl, rfl⟩ := Prod.mk.inj (Option.some.inj h)
    refine (times_no A0 l0.length c0 a1 w (by omega)).mono ?_
    rintro e w' ⟨rfl, rfl⟩
    exact ⟨_, rfl, Kd.R_nil _ _ _ _ _, Below.refl _ _⟩
def twice_Mul.f (l0 l1 : List Int) : Option (List Int × Int) :=
  if l0.length = 16 ∧ l1.length = 16 then some (mulOut l0 l1 128, 0) else some ([], 2)
theorem twice_Mul.calls (A0 : Option Addr) (c0 : Nat) (l0 : List Int) (A1 : Option Addr) (c1 : Nat) (l1 : List Int) (r1 : List Int) (r2 : Int) (w : World) (hr0 : Kd.C (Kd.int .u8) w A0 l0.length l0) (hc0 : l0.length ≤ c0) (hr1 : Kd.C (Kd.int .u8) w A1 l1.length l1) (hc1 : l1.length ≤ c1) (h : twice_Mul.f l0 l1 = some (r1, r2)) :
    Calls Try.prog 28 #[.slice A0 l0.length c0, .slice A1 l1.length c1] w fun e w' => ∃ v0_ : Value, e = .returned (.tuple #[v0_, .int .i64 r2]) ∧ Kd.R (Kd.int .u8) 5 w' w.heap.size (fun _ => True) v0_ r1 ∧ Below w.heap.size w w' := by
  unfold twice_Mul.f at h
  by_cases hc : l0.length = 16 ∧ l1.length = 16
  · rw [if_pos hc] at h
    obtain ⟨rfl, rfl⟩ := Prod.mk.inj (Option.some.inj h)
    obtain ⟨hl, hl1⟩ := hc
    rw [hl] at hr0 hc0 ⊢
    rw [hl1] at hr1 hc1 ⊢
    exact mul_ok A0 c0 l0 A1 c1 l1 w hr0 hl hc0 hr1 hl1 hc1
  · rw [if_neg hc] at h
    obtain ⟨rfl, rfl⟩ := Prod.mk.inj (Option.some.inj h)
    refine (mul_no A0 l0.length c0 A1 l1.length c1 w (by omega)).mono ?_
    rintro e w' ⟨rfl, rfl⟩
    exact ⟨_, rfl, Kd.R_nil _ _ _ _ _, Below.refl _ _⟩
end Go.Proofs.Ythmahaoadoeoaaa.Own
