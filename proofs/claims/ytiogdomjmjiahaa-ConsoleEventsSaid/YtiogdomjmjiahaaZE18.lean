/- CoU, pruned (slim.py). -/
import Derived.Test.YtiogdomjmjiahaaZE17
import Derived.Test.YtiogdomjmjiahaaZE15
namespace Go.Proofs.Ytiogdomjmjiahaa.Own
open Go.RowKit Go.Proofs.Ytiogdomjmjiahaa.Arr Go.Proofs.Ytiogdomjmjiahaa.QA Go.Proofs.Ytiogdomjmjiahaa.QB Go.Proofs.YtiogdomjmjiahaaW.PrintWords Go.Proofs.YtiogdomjmjiahaaW.PrintLast Go.Proofs.YtiogdomjmjiahaaW.PrintMore
set_option linter.unusedVariables false
set_option linter.unusedSimpArgs false
def valD (c : Int) : Int := if 48 ≤ c ∧ c ≤ 57 then c - 48 else if 97 ≤ c ∧ c ≤ 102 then c - 87 else 16
theorem valD_bd (c : Int) : 0 ≤ valD c ∧ valD c ≤ 16 := by
  unfold valD
  by_cases h1 : 48 ≤ c ∧ c ≤ 57
  · rw [if_pos h1]; omega
  · rw [if_neg h1]
    by_cases h2 : 97 ≤ c ∧ c ≤ 102
    · rw [if_pos h2]; omega
    · rw [if_neg h2]; omega
set_option maxHeartbeats 2000000 in
set_option maxRecDepth 100000 in
theorem value_any (c : Int) (h : byt c) (w : World) : Calls Try.prog 103 #[.int .u8 c] w fun e w' => e = .returned (.int .u8 (valD c)) ∧ w' = w := by
  obtain ⟨h0, h1⟩ := h
  have h1' : c ≤ 255 := by omega
  clear h1
  by_cases a1 : 48 ≤ c
  · by_cases a2 : c ≤ 57
    · have e : valD c = c - 48 := by unfold valD; rw [if_pos ⟨a1, a2⟩]
      rw [e]
      go_enter Try.func103, Try.ntmps103
      go_wp2
      go_ret
      exact ⟨rfl, rfl⟩
    · by_cases a3 : 97 ≤ c
      · by_cases a4 : c ≤ 102
        · have e : valD c = c - 87 := by unfold valD; rw [if_neg (by omega), if_pos ⟨a3, a4⟩]
          have e2 : c - 97 + 10 = c - 87 := by omega
          rw [e]
          obtain ⟨d, hd⟩ : ∃ d, d = c - 97 := ⟨_, rfl⟩
          go_enter Try.func103, Try.ntmps103
          go_wp2
          go_ret
          exact ⟨by first | rfl | (simp; omega), rfl⟩
        · have e : valD c = 16 := by unfold valD; rw [if_neg (by omega), if_neg (by omega)]
          rw [e]
          go_enter Try.func103, Try.ntmps103
          go_wp2
          go_ret
          exact ⟨rfl, rfl⟩
      · have e : valD c = 16 := by unfold valD; rw [if_neg (by omega), if_neg (by omega)]
        rw [e]
        go_enter Try.func103, Try.ntmps103
        go_wp2
        go_ret
        exact ⟨rfl, rfl⟩
  · have e : valD c = 16 := by unfold valD; rw [if_neg (by omega), if_neg (by omega)]
    rw [e]
    go_enter Try.func103, Try.ntmps103
    go_wp2
    go_ret
    exact ⟨rfl, rfl⟩
theorem pack4 (a b : Int) (ha : 0 ≤ a ∧ a ≤ 15) (hb : 0 ≤ b ∧ b ≤ 15) : Go.bits .or .u8 (a * 16) b = a * 16 + b := by
  obtain ⟨m, rfl⟩ := Int.eq_ofNat_of_zero_le ha.1
  obtain ⟨n, rfl⟩ := Int.eq_ofNat_of_zero_le hb.1
  have : ∀ m n : Fin 16, Go.bits .or .u8 (((m.val : Nat) : Int) * 16) ((n.val : Nat) : Int) = ((m.val : Nat) : Int) * 16 + ((n.val : Nat) : Int) := by decide +kernel
  exact this ⟨m, by omega⟩ ⟨n, by omega⟩
def unhL (s : ByteArray) : Nat → Option (List Int)
  | 0 => some []
  | k + 1 => (unhL s k).bind fun L => if valD (bt s (2 * k : Nat)) ≤ 15 ∧ valD (bt s (2 * k + 1 : Nat)) ≤ 15 then some (L ++ [valD (bt s (2 * k : Nat)) * 16 + valD (bt s (2 * k + 1 : Nat))]) else none
def unhexF (s : ByteArray) : Option (List Int) := if s.size % 2 = 0 then unhL s (s.size / 2) else none
theorem unhL_none (s : ByteArray) (k m : Nat) (h : unhL s k = none) (hm : k ≤ m) : unhL s m = none := by
  induction m with
  | zero => obtain rfl : k = 0 := by omega
            exact h
  | succ m ih =>
    by_cases e : k = m + 1
    · subst e; exact h
    · rw [unhL, ih (by omega)]; rfl
theorem unhL_len (s : ByteArray) (k : Nat) (L : List Int) (h : unhL s k = some L) : L.length = k := by
  induction k generalizing L with
  | zero => obtain rfl := Option.some.inj h; rfl
  | succ k ih =>
    rw [unhL] at h
    cases hk : unhL s k with
    | none => rw [hk] at h; cases h
    | some M =>
      rw [hk, Option.bind_some] at h
      by_cases hc : valD (bt s (2 * k : Nat)) ≤ 15 ∧ valD (bt s (2 * k + 1 : Nat)) ≤ 15
      · rw [if_pos hc] at h
        obtain rfl := Option.some.inj h
        rw [List.length_append, ih M hk]; rfl
      · rw [if_neg hc] at h; cases h
def UnhPost (w : World) (r : Option (List Int)) (e : Ending) (w' : World) : Prop := ∃ v0_ : Value, e = .returned (.tuple #[v0_, .int .i64 (if r.isSome then 0 else 1)]) ∧ Kd.R (Kd.int .u8) 5 w' w.heap.size (fun _ => True) v0_ (r.getD []) ∧ Below w.heap.size w w'
theorem bt_byt (s : ByteArray) (i : Int) : byt (bt s i) := by
  unfold bt byt
  split
  · have := UInt8.toNat_lt (s[i.toNat]'(by assumption)); omega
  · omega
set_option maxHeartbeats 4000000 in
set_option maxRecDepth 100000 in
theorem unhex_any (s : ByteArray) (w : World) (hs : s.size ≤ 140737488351232) : Calls Try.prog 101 #[.string s] w (UnhPost w (unhexF s)) := by
  have hm0 : (s.size : Int) ≤ 140737488351232 := by omega
  by_cases hodd : s.size % 2 = 0
  case neg =>
    have e : unhexF s = none := by unfold unhexF; rw [if_neg hodd]
    rw [e]
    have ho : ((s.size : Int) % 2 != 0) = true := by
      have : (s.size : Int) % 2 = 1 := by omega
      rw [this]; rfl
    clear hs hodd e
    go_enter Try.func101, Try.ntmps101
    go_wp2_with fail
    go_ret2
    exact ⟨_, rfl, Kd.R_nil _ _ _ _ _, Below.refl _ _⟩
  have ho : ((s.size : Int) % 2 != 0) = false := by
    have : (s.size : Int) % 2 = 0 := by omega
    rw [this]; rfl
  have e : unhexF s = unhL s (s.size / 2) := by unfold unhexF; rw [if_pos hodd]
  rw [e]
  obtain ⟨N, hN⟩ : ∃ N, N = s.size / 2 := ⟨_, rfl⟩
  have hN2 : s.size = 2 * N := by omega
  rw [← hN]
  obtain ⟨i0, hi, hz, hsz, hby⟩ := info_parts info5
  have hdiv : (s.size : Int) / 2 = (N : Int) := by omega
  have hmk := run_make (P := Try.prog) w 25 5 i0 (.int .u8 0) Try.underlying25 hi hz .i64 .i64 0 (N : Int) (Int.le_refl _) (by omega) (by rw [hby]; omega) (by omega)
  have hown0 := World.ownsRow_made (e := 5) (base := w.heap.size) (size := 1) w (madeCells #[Value.int IntKind.u8 0] N) N (Nat.le_refl _) (by simp only [maxLen]; omega) (by rw [size_madeCells]; simp)
  simp only [Int.toNat_zero, Int.toNat_natCast] at hmk hown0
  have hown0' := Lib.hid hown0
  have hN2' := Lib.hid hN2
  have hsl := Lib.hid hs
  have hval := Lib.hid (fun c h w => value_any c h w)
  obtain ⟨R, hR⟩ : ∃ R, R = unhL s N := ⟨_, rfl⟩
  have hR' := Lib.hid hR
  rw [← hR]
  clear hN e hodd hs hown0 hN2 hR
  go_enter Try.func101, Try.ntmps101
  go_wp2_with fail
  clear hmk
  go_loopw [4, 5] (fun v u wr => ∃ (k j : Nat) (L : List Int), k ≤ N ∧ j = 2 * k ∧ u = .int .i64 j ∧ unhL s k = some L ∧ wr.ownsRow w.heap.size 5 1 v L.length (nums .u8 L) ∧ Below w.heap.size w wr) (fun _ u _ => s.size - (intOf u).toNat)
  case atStart => exact ⟨0, 0, [], Nat.zero_le _, rfl, rfl, rfl, hown0'.out, (Below.refl _ _).alloc (Nat.le_refl _) _⟩
  case round =>
    obtain ⟨k, j, L, hk, hj, rfl, hL, hown, hbw⟩ := hrel
    obtain ⟨Av, cv, rfl⟩ := own_slice hown
    have hown' := Lib.hid hown
    have hbw' := Lib.hid hbw
    have hL' := Lib.hid hL
    have hj' := Lib.hid hj
    have hLl := Lib.hid (unhL_len s k L hL)
    have hN2 := hN2'.out
    by_cases hlt : k < N
    · have hj1 : j < s.size := by omega
      have hj2 : j + 1 < s.size := by omega
      obtain ⟨c0, hc0⟩ : ∃ c, c = bt s (j : Int) := ⟨_, rfl⟩
      obtain ⟨c1, hc1⟩ : ∃ c, c = bt s ((j + 1 : Nat) : Int) := ⟨_, rfl⟩
      have hb0 : ∀ h : j < s.size, (((s[j]'h).toNat : Nat) : Int) = c0 := fun h => by rw [hc0, bt_nat s j h]
      have hb1 : ∀ h : j + 1 < s.size, (((s[j + 1]'h).toNat : Nat) : Int) = c1 := fun h => by rw [hc1, bt_nat s (j + 1) h]
      have hv0 := Lib.hid (fun w1 => hval.out c0 (by rw [hc0]; exact bt_byt s _) w1)
      have hv1 := Lib.hid (fun w1 => hval.out c1 (by rw [hc1]; exact bt_byt s _) w1)
      obtain ⟨a0, ha0⟩ : ∃ a, a = valD c0 := ⟨_, rfl⟩
      obtain ⟨a1, ha1⟩ : ∃ a, a = valD c1 := ⟨_, rfl⟩
      have hA0 := valD_bd c0
      have hA1 := valD_bd c1
      rw [← ha0] at hv0 hA0
      rw [← ha1] at hv1 hA1
      have hstep := Lib.hid (show unhL s (k + 1) = if a0 ≤ 15 ∧ a1 ≤ 15 then some (L ++ [a0 * 16 + a1]) else none by
        rw [unhL, hL, Option.bind_some, ← hj, ← hc0, ← hc1, ← ha0, ← ha1])
      have k0 : (0 : Int) ≤ (j : Int) := by omega
      have k1 : (j : Int) < (s.size : Int) := by omega
      have k2 : (0 : Int) ≤ (j : Int) + 1 := by omega
      have k3 : (j : Int) + 1 < (s.size : Int) := by omega
      have k4 : ((j : Int) + 1).toNat = j + 1 := by omega
      have k5 : IntKind.i64.wrap ((j : Int) + 1) = (j : Int) + 1 := by rw [IntKind.wrap_i64]; omega
      obtain ⟨p0, p1⟩ := hA0
      obtain ⟨p2, p3⟩ := hA1
      clear hown hbw hL hc0 hc1 ha0 ha1 hj hN2
      go_wp2_with fail
      go_quiet ((go_at_call 103; (first | (with_reducible exact Calls.quiet_of_same (hv0.out _)) | (with_reducible exact Calls.quiet_of_same (hv1.out _)))))
      clear k0 k1 k2 k3 k4 k5 hb0 hb1 hv0 hv1
      have ret : (¬ (a0 ≤ 15 ∧ a1 ≤ 15)) → R = none := fun h => by
        rw [hR'.out]
        exact unhL_none s (k + 1) N (by rw [hstep.out, if_neg h]) (by omega)
      have ret' := Lib.hid ret
      clear ret
      by_cases h0 : a0 ≤ 15
      · by_cases h1 : a1 ≤ 15
        · obtain ⟨y, hy⟩ : ∃ y, y = a0 * 16 + a1 := ⟨_, rfl⟩
          have hy0 := Lib.hid (show byt y from ⟨by omega, by omega⟩)
          have hor : Go.bits .or .u8 (a0 * 16) a1 = y := by rw [hy]; exact pack4 a0 a1 ⟨p0, h0⟩ ⟨p2, h1⟩
          obtain ⟨M, hM⟩ : ∃ M, M = L ++ [y] := ⟨_, rfl⟩
          have hM' := Lib.hid hM
          have hnext := Lib.hid (show unhL s (k + 1) = some M by rw [hstep.out, if_pos ⟨h0, h1⟩, hM, hy])
          have hsh : (a0 * 16) % 256 = a0 * 16 := by omega
          have hsl1 := Lib.hid (fun n => show Src Try.prog 1 25 (.slice (some ⟨wr.heap.size, 0, none⟩) 1 1) [y].length ([y].map (Value.int .u8)) ((wr.drewN n).alloc (.cells (ints .u8 [y]) 5 (0, 0))) from src_lit ((wr.drewN n).alloc (.cells (ints .u8 [y]) 5 (0, 0))) wr.heap.size [y] (by simp) (heap_at (wr.drewN n) _ _ rfl) 1)
          have ho1 := Lib.hid (fun n => show ((wr.drewN n).alloc (.cells (ints .u8 [y]) 5 (0, 0))).ownsRow w.heap.size 5 1 (.slice Av L.length cv) L.length (nums .u8 L) from World.ownsRow.alloc (own_move hown'.out (fun k hk => rfl)) _)
          have hb1 := Lib.hid (fun n => show Below w.heap.size w ((wr.drewN n).alloc (.cells (ints .u8 [y]) 5 (0, 0))) from below_alloc (pw_below_drewN hbw'.out n) _)
          clear hy hM hstep
          go_wp2_with (refine wpList_own_append rfl (.tmp 37) (.tmp 42) 25 rfl w.heap.size (.slice Av L.length cv) L (.slice (some ⟨wr.heap.size, 0, none⟩) 1 1) [y] rfl rfl (hsl1.out _) (ho1.out _) (hb1.out _).size (by have := hLl.out; have := hN2'.out; have := hsl.out; simp only [List.length_singleton]; omega) ?_; intro v' w2 h1 h2; rw [← hM'.out] at h1; have o2 := Lib.hid h1; have b2 := Lib.hid ((hb1.out _).grown h2 (hb1.out _).size (fun q hq => ((ho1.out 0).lt q hq).1)); clear h1 h2)
          have hj := hj'.out
          have hN2 := hN2'.out
          refine ⟨⟨k + 1, j + 2, M, by omega, by omega, by go_num, hnext.out, o2.out, b2.out⟩, ?measure⟩
          case measure => simp [intOf]; omega
        · have h1' : 15 < a1 := by omega
          have hRn := Lib.hid (ret'.out (fun h => h1 h.2))
          clear h1 ret' hstep
          go_wp2_with fail
          go_ret2
          rw [hRn.out]
          exact ⟨_, rfl, Kd.R_nil _ _ _ _ _, pw_below_drewN hbw'.out _⟩
      · have h0' : 15 < a0 := by omega
        have hRn := Lib.hid (ret'.out (fun h => h0 h.1))
        clear h0 ret' hstep
        go_wp2_with fail
        go_ret2
        rw [hRn.out]
        exact ⟨_, rfl, Kd.R_nil _ _ _ _ _, pw_below_drewN hbw'.out _⟩
    · obtain rfl : k = N := by omega
      have hjs : (j : Int) = (s.size : Int) := by omega
      have hRs := Lib.hid (show R = some L by rw [hR'.out, hL])
      have hjs' : ¬ (j : Int) < (s.size : Int) := by omega
      clear hown hbw hL hlt hk hj hN2 hjs
      go_wp2_with fail
      go_ret2
      rw [hRs.out]
      exact ⟨_, rfl, R_of_nums hown'.out, hbw'.out⟩
def octet_Unhex.f (s : ByteArray) : Option (List Int × Int) := if s.size ≤ 140737488351232 then some ((unhexF s).getD [], if (unhexF s).isSome then 0 else 1) else none
theorem octet_Unhex.calls (a0 : ByteArray) (r1 : List Int) (r2 : Int) (w : World) (h : octet_Unhex.f a0 = some (r1, r2)) :
    Calls Try.prog 101 #[.string a0] w fun e w' => ∃ v0_ : Value, e = .returned (.tuple #[v0_, .int .i64 r2]) ∧ Kd.R (Kd.int .u8) 5 w' w.heap.size (fun _ => True) v0_ r1 ∧ Below w.heap.size w w' := by
  unfold octet_Unhex.f at h
  by_cases hs : a0.size ≤ 140737488351232
  · rw [if_pos hs] at h
    obtain ⟨h1, h2⟩ := Prod.mk.inj (Option.some.inj h)
    have := unhex_any a0 w hs
    refine this.mono ?_
    rintro e w' ⟨v, he, hR, hb⟩
    rw [h1] at hR
    rw [h2] at he
    exact ⟨v, he, hR, hb⟩
  · rw [if_neg hs] at h; cases h
end Go.Proofs.Ytiogdomjmjiahaa.Own
