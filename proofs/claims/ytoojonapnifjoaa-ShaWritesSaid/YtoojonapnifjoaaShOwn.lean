/- What the functions of sha answer, and that the code answers so, in the print's form. -/
import Derived.Test.YtoojonapnifjoaaShU
import Derived.Lib.SlBytesConst
namespace Go.Proofs.Ytoojonapnifjoaa.Own
open Go.RowKit Go.Proofs.Ytoojonapnifjoaa.Arr Go.Proofs.Ytoojonapnifjoaa.QB Go.Proofs.YtoojonapnifjoaaW.PrintWords Go.Proofs.YtoojonapnifjoaaW.PrintLast Go.Proofs.YtoojonapnifjoaaW.PrintMore
set_option linter.unusedVariables false
def sha_Sum.f (l0 : List Int) : Option (List Int) := if l0.length ≤ 1099511627776 then some (sumL l0) else none
theorem sha_Sum.calls (A0 : Option Addr) (c0 : Nat) (l0 : List Int) (r : List Int) (w : World) (hr0 : Kd.C (Kd.int .u8) w A0 l0.length l0) (hc0 : l0.length ≤ c0) (h : sha_Sum.f l0 = some r) :
    Calls Try.prog 17 #[.slice A0 l0.length c0] w fun e w' => ∃ v0_ : Value, e = .returned (v0_) ∧ Kd.R (Kd.int .u8) 5 w' w.heap.size (fun _ => True) v0_ r ∧ Below w.heap.size w w' := by
  unfold sha_Sum.f at h
  by_cases hl : l0.length ≤ 1099511627776
  · rw [if_pos hl] at h
    obtain rfl := Option.some.inj h
    exact shaSum_any A0 c0 l0 w hr0 hl
  · rw [if_neg hl] at h; cases h
def sha_Pad.f (l0 : List Int) : Option (List Int) := if l0.length ≤ 1099511627776 then some (l0 ++ tailL l0.length) else none
theorem sha_Pad.calls (A0 : Option Addr) (c0 : Nat) (l0 : List Int) (r : List Int) (w : World) (hr0 : Kd.C (Kd.int .u8) w A0 l0.length l0) (hc0 : l0.length ≤ c0) (h : sha_Pad.f l0 = some r) :
    Calls Try.prog 19 #[.slice A0 l0.length c0] w fun e w' => ∃ v0_ : Value, e = .returned (v0_) ∧ Kd.R (Kd.int .u8) 5 w' w.heap.size (fun _ => True) v0_ r ∧ Below w.heap.size w w' := by
  unfold sha_Pad.f at h
  by_cases hl : l0.length ≤ 1099511627776
  · rw [if_pos hl] at h
    obtain rfl := Option.some.inj h
    exact pad_any A0 c0 l0 w hr0 hl
  · rw [if_neg hl] at h; cases h
def sha_Compress.f (l0 l1 : List Int) : Option (List Int × Int) := if l0.length = 8 ∧ l1.length = 64 then some (compL l0 l1, 0) else some ([], 2)
theorem sha_Compress.calls (A0 : Option Addr) (c0 : Nat) (l0 : List Int) (A1 : Option Addr) (c1 : Nat) (l1 : List Int) (r1 : List Int) (r2 : Int) (w : World) (hr0 : Kd.C (Kd.int .u32) w A0 l0.length l0) (hc0 : l0.length ≤ c0) (hr1 : Kd.C (Kd.int .u8) w A1 l1.length l1) (hc1 : l1.length ≤ c1) (h : sha_Compress.f l0 l1 = some (r1, r2)) :
    Calls Try.prog 25 #[.slice A0 l0.length c0, .slice A1 l1.length c1] w fun e w' => ∃ v0_ : Value, e = .returned (.tuple #[v0_, .int .i64 r2]) ∧ Kd.R (Kd.int .u32) 34 w' w.heap.size (fun _ => True) v0_ r1 ∧ Below w.heap.size w w' := by
  unfold sha_Compress.f at h
  by_cases hl : l0.length = 8 ∧ l1.length = 64
  · rw [if_pos hl] at h
    obtain ⟨rfl, rfl⟩ := Prod.mk.inj (Option.some.inj h)
    obtain ⟨h0, h1⟩ := hl
    rw [h0] at hr0 hc0 ⊢
    rw [h1] at hr1 hc1 ⊢
    exact compress_ok A0 c0 l0 A1 c1 l1 w hr0 h0 hc0 hr1 h1 hc1
  · rw [if_neg hl] at h
    obtain ⟨rfl, rfl⟩ := Prod.mk.inj (Option.some.inj h)
    refine (compress_no A0 A1 _ c0 _ c1 w hl).mono ?_
    rintro e w' ⟨rfl, ⟨nd, rfl⟩⟩
    exact ⟨_, rfl, Kd.R_nil _ _ _ _ _, pw_below_drewN (Below.refl _ _) _⟩
theorem abc : (sumL [97, 98, 99]).getD 0 0 = 186 ∧ (sumL [97, 98, 99]).getD 31 0 = 173 := by decide +kernel
def nepenthelaw02_awake.f : Option Bool := some true
set_option maxHeartbeats 2000000 in
set_option maxRecDepth 100000 in
theorem nepenthelaw02_awake.calls (r : Bool) (w : World) (h : nepenthelaw02_awake.f = some r) :
    Calls Try.prog 15 #[] w fun e w' => e = .returned (.bool r) ∧ Below w.heap.size w w' := by
  obtain rfl := Option.some.inj h
  clear h
  have kc := fun (w : World) (C : Array Value) (n c : Nat) => Lib.run_convert_bytes_const (P := Try.prog) w 22 5 C n c Try.underlying22 Try.underlying5
  obtain ⟨D, hD⟩ : ∃ D, D = sumL [97, 98, 99] := ⟨_, rfl⟩
  have hDl : D.length = 32 := by rw [hD]; exact sumL_length _
  have hD0 : D.getD 0 0 = 186 := by rw [hD]; exact abc.1
  have hD31 : D.getD 31 0 = 173 := by rw [hD]; exact abc.2
  have hsum : ∀ w1 A c, Kd.C (Kd.int .u8) w1 A 3 [97, 98, 99] → Calls Try.prog 17 #[.slice A 3 c] w1 fun e w' => ∃ v0_ : Value, e = .returned v0_ ∧ Kd.R (Kd.int .u8) 5 w' w1.heap.size (fun _ => True) v0_ D ∧ Below w1.heap.size w1 w' := by
    rw [hD]; exact fun w1 A c hC => shaSum_any A c [97, 98, 99] w1 hC (by decide)
  have hsum' := Lib.hid hsum
  have hDl' := Lib.hid hDl
  have hD0' := Lib.hid hD0
  have hD31' := Lib.hid hD31
  clear hD hsum hDl hD0 hD31
  go_enter Try.func15, Try.ntmps15
  go_wp2_with (go_at_call 17; refine (hsum'.out _ _ _ (C_block (k := .u8) (l := [97, 98, 99]) (heap_at _ _ _ rfl) (by decide))).mono ?_; rintro e w1 ⟨v, rfl, hR, hb⟩; have hb1 := Lib.hid (below_step (below_alloc (Below.refl _ _) _) hb); obtain ⟨Ad, cd, rfl⟩ := Kd.R_slice hR; have hC := (Kd.R_reads' hR).2.2; obtain ⟨b, o, rfl, hr⟩ := C_range hC (by rw [hDl'.out]; decide); have hc0 := C_cell hr 0 (by rw [hDl'.out]; decide); have hc31 := C_cell hr 31 (by rw [hDl'.out]; decide); rw [hD0'.out] at hc0; rw [hD31'.out] at hc31; rw [Nat.add_zero] at hc0; rw [hDl'.out]; clear hR hb hC hr)
  go_ret
  exact ⟨rfl, hb1.out⟩
end Go.Proofs.Ytoojonapnifjoaa.Own
