/- command.Bytes, walked. -/
import Derived.Test.YtiogdomjmjiahaaCmP
namespace Go.Proofs.Ytiogdomjmjiahaa.Own
open Go.RowKit Go.Proofs.Ytiogdomjmjiahaa.Arr Go.Proofs.Ytiogdomjmjiahaa.QA Go.Proofs.YtiogdomjmjiahaaW.PrintWords Go.Proofs.YtiogdomjmjiahaaW.PrintLast Go.Proofs.YtiogdomjmjiahaaW.PrintMore
set_option linter.unusedVariables false
set_option linter.unusedSimpArgs false
theorem built4 (a b c d : Int) : Try.prog.built 103 (#[(0, .int .i64 a), (1, .int .i64 b), (2, .int .i64 c), (3, .int .i64 d)] : Array (Nat × Value)).toList = some (ints .i64 [a, b, c, d]) := by kernel_rfl
theorem built2 (A B : Option Addr) (n c m d : Nat) : Try.prog.built 105 (#[(0, .slice A n c), (1, .slice B m d)] : Array (Nat × Value)).toList = some #[.slice A n c, .slice B m d] := by kernel_rfl
theorem info3 : (Try.prog.info? 3).map (·.size) = some 1 := by kernel_rfl
theorem index2_0 (A B : Option Addr) (n c m d : Nat) (W : World) : (Instr.index 105 (.agg #[.slice A n c, .slice B m d]) (.int .i64 0)).run Try.prog W = .ok (.slice A n c) W := by kernel_rfl
theorem index2_1 (A B : Option Addr) (n c m d : Nat) (W : World) : (Instr.index 105 (.agg #[.slice A n c, .slice B m d]) (.int .i64 1)).run Try.prog W = .ok (.slice B m d) W := by kernel_rfl
def partsL (H P D : List Int) (k : Nat) : List Int := if k = 0 then H else if k = 1 then H ++ big4 P.length ++ P else H ++ big4 P.length ++ P ++ big4 D.length ++ D
theorem big_any (a : Int) (h : fit a) (w : World) : Calls Try.prog 56 #[.int .u64 a, .int .i64 4] w fun e w' => ∃ v0_ : Value, e = .returned v0_ ∧ Kd.R (Kd.int .u8) 5 w' w.heap.size (fun _ => True) v0_ (big4 a) ∧ Below w.heap.size w w' := by
  exact octet_Big.calls 5 a 4 (big4 a) w (big4_eq 0 a)
attribute [-go_sem] Instr.build
set_option maxHeartbeats 4000000 in
set_option maxRecDepth 100000 in
theorem bytes_any (a0 a1 a2 a3 : Int) (A : Option Addr) (ca : Nat) (P : List Int) (B : Option Addr) (cb : Nat) (D : List Int) (w : World)
    (hP : Kd.C (Kd.int .u8) w A P.length P) (hca : P.length ≤ ca) (hD : Kd.C (Kd.int .u8) w B D.length D) (hcb : D.length ≤ cb) (hPm : P.length ≤ 140737488351232) (hDm : D.length ≤ 140737488351232) :
    Calls Try.prog 17 #[.agg #[.int .i64 a0, .int .i64 a1, .int .i64 a2, .int .i64 a3, .slice A P.length ca, .slice B D.length cb]] w fun e w' =>
      ∃ v : Value, e = .returned (.tuple #[v, .int .i64 (if fits6 a0 a1 a2 a3 P D then 0 else 1)]) ∧ Kd.R (Kd.int .u8) 5 w' w.heap.size (fun _ => True) v (if fits6 a0 a1 a2 a3 P D then textL a0 a1 a2 a3 P D else []) ∧ Below w.heap.size w w' := by
  have hP' := Lib.hid hP
  have hD' := Lib.hid hD
  have hca' := Lib.hid hca
  have hcb' := Lib.hid hcb
  have hPm' := Lib.hid hPm
  have hDm' := Lib.hid hDm
  clear hP hD hca hcb hPm hDm
  have hu := Try.underlying27
  have hb4 : ∀ W : World, (Instr.build 103 #[(0, .int .i64 a0), (1, .int .i64 a1), (2, .int .i64 a2), (3, .int .i64 a3)]).run Try.prog W = .ok (.agg (ints .i64 [a0, a1, a2, a3])) W := fun W => run_build W _ _ _ (built4 a0 a1 a2 a3)
  have hb2 : ∀ W : World, (Instr.build 105 #[(0, .slice A P.length ca), (1, .slice B D.length cb)]).run Try.prog W = .ok (.agg #[.slice A P.length ca, .slice B D.length cb]) W := fun W => run_build W _ _ _ (built2 A B P.length ca D.length cb)
  go_enter Try.func17, Try.ntmps17
  go_wp2_with fail
  obtain ⟨NS, hNS⟩ : ∃ NS, NS = [a0, a1, a2, a3] := ⟨_, rfl⟩
  have hNS' := Lib.hid hNS
  have hnl := Lib.hid (show NS.length = 4 by rw [hNS]; rfl)
  rw [← hNS]
  clear hNS hb4
  go_loopw [4, 6, 18] (fun v _ i wr => ∃ k : Nat, k ≤ 4 ∧ i = .int .i64 k ∧ (∀ j, j < k → fit (NS.getD j 0)) ∧ wr.heap[w.heap.size]? = some (.cells #[.int .i64 a0, .int .i64 a1, .int .i64 a2, .int .i64 a3, .slice A P.length ca, .slice B D.length cb] 27 (0, 0)) ∧ Kd.R (Kd.int .u8) 5 wr (w.heap.size + 1) (fun _ => True) v (headL NS k) ∧ Below w.heap.size w wr) (fun _ _ i _ => 4 - (intOf i).toNat)
  case atStart => exact ⟨0, Nat.zero_le _, rfl, fun j hj => absurd hj (Nat.not_lt_zero _), heap_alloc_last _ _, Kd.R_nil _ _ _ _ _, (Below.refl _ _).alloc (Nat.le_refl _) _⟩
  case round =>
    obtain ⟨k, hk, rfl, hfit, hblk, hR, hb⟩ := hrel
    have hfit' := Lib.hid hfit
    have hblk' := Lib.hid hblk
    have hR' := Lib.hid hR
    have hb' := Lib.hid hb
    have hgt := Lib.hid (lt_of_heap hblk)
    obtain ⟨Av, cv, rfl⟩ := Kd.R_slice hR
    clear hfit hblk hR hb
    by_cases hlt : k < 4
    · have hidx : ∀ W, (Instr.index 103 (.agg (ints .i64 NS)) (.int .i64 (k : Int))).run Try.prog W = .ok (.int .i64 (NS.getD k 0)) W := fun W => run_index_ints _ 3 4 .i64 NS k Try.underlying103 info3 _ Try.underlying3 rfl hnl.out hlt W
      have hsucc := headL_succ NS k (by rw [hnl.out]; omega)
      have hlen := headL_len NS k (by rw [hnl.out]; omega)
      obtain ⟨n, hn⟩ : ∃ n, n = NS.getD k 0 := ⟨_, rfl⟩
      obtain ⟨F, hF⟩ : ∃ F, F = headL NS k := ⟨_, rfl⟩
      rw [← hn] at hidx hsucc
      rw [← hF] at hsucc hlen hR'
      rw [← hF]
      have hsucc' := Lib.hid hsucc
      have hlen' := Lib.hid hlen
      have hn' := Lib.hid hn
      clear hsucc hlen hn hF
      by_cases hfn : fit n
      · obtain ⟨h0, h1⟩ := id hfn
        have h0' : ¬ n < 0 := by omega
        have h1' : ¬ 4294967295 < n := by omega
        have hfn' := Lib.hid hfn
        clear h0 h1 hfn
        go_wp2_with (first
          | (go_at_call 56; refine (big_any n hfn'.out _).mono ?_; rintro e w1 ⟨v1, rfl, hR1, hb1⟩; obtain ⟨A1, c1, rfl⟩ := Kd.R_slice hR1; have hC1 := Lib.hid (Kd.R_reads' hR1).2.2; have hR2 := Lib.hid (Kd.R_below hR'.out hb1); have hblk1 := Lib.hid (heap_below hblk'.out hb1); have hsz1 := Lib.hid (Nat.le_trans hgt.out hb1.size); have hb2 := Lib.hid (below_step hb'.out hb1); clear hR1 hb1)
          | (at_builtin; refine Kd.R_append_rows (Kd.int .u8) (w0 := w1) (w.heap.size + 1) rfl (.tmp 27) (.tmp 30) 25 5 (.int .u8 0) 1 rfl Try.underlying25 info5 rfl (by decide) (by omega) (.slice Av F.length cv) F (big4 n) _ _ _ (fun _ => True) (fun _ => False) rfl rfl hR2.out hC1.out (fun _ _ h => h) (fun _ h => h.elim) (fun _ _ => trivial) (Below.refl _ _) hsz1.out (by have := hlen'.out; have := big4_len n; omega) ?_; intro v7 w7 hR7 hb7 hg7 hat7; have hR7' := Lib.hid hR7; have hblk7 := Lib.hid ((hb7.block _ (Nat.lt_succ_self _)).trans hblk1.out); have hb7' := Lib.hid (hb2.out.trans (hb7.mono (Nat.le_succ _))); clear hR7 hb7 hg7 hat7))
        go_roundw
        case rel =>
          refine ⟨k + 1, by omega, by go_num, fun j hj => ?_, hblk7.out, by rw [hsucc'.out]; exact hR7'.out, hb7'.out⟩
          by_cases e : j = k
          · subst e; rw [← hn'.out]; exact hfn'.out
          · exact hfit'.out j (by omega)
        case measure => simp [intOf]; omega
      · have hno : ¬ fits6 a0 a1 a2 a3 P D := by
          intro h
          apply hfn
          rw [hn'.out, hNS'.out]
          have : k = 0 ∨ k = 1 ∨ k = 2 ∨ k = 3 := by omega
          rcases this with rfl | rfl | rfl | rfl
          · exact h.1.1
          · exact h.1.2.1
          · exact h.1.2.2.1
          · exact h.1.2.2.2
        by_cases h0 : n < 0
        · go_wp2_with fail
          go_ret2
          exact ⟨.slice none 0 0, rfl, Kd.R_nil _ _ _ _ _, hb'.out⟩
        · have h1 : 4294967295 < n := by unfold fit at hfn; omega
          go_wp2_with fail
          go_ret2
          exact ⟨.slice none 0 0, rfl, Kd.R_nil _ _ _ _ _, hb'.out⟩
    · obtain rfl : k = 4 := by omega
      have hc4 : wr.cell? ⟨w.heap.size, 4, none⟩ = some (.slice A P.length ca) := (blk_cell hblk'.out 4).trans rfl
      have hc5 : wr.cell? ⟨w.heap.size, 5, none⟩ = some (.slice B D.length cb) := (blk_cell hblk'.out 5).trans rfl
      have hlen := Lib.hid (headL_len NS 4 (by rw [hnl.out]; omega))
      have hfitA : fit a0 ∧ fit a1 ∧ fit a2 ∧ fit a3 := by
        have h := hfit'.out
        rw [hNS'.out] at h
        exact ⟨h 0 (by omega), h 1 (by omega), h 2 (by omega), h 3 (by omega)⟩
      have hfitA' := Lib.hid hfitA
      have htx := Lib.hid (show textL a0 a1 a2 a3 P D = partsL (headL NS 4) P D 2 by rw [hNS'.out]; rfl)
      obtain ⟨H, hH⟩ : ∃ H, H = headL NS 4 := ⟨_, rfl⟩
      rw [← hH] at hlen htx hR'
      rw [← hH]
      clear hfitA hfit' hH hNS'
      -- second loop
      go_wp2_with fail
      clear hblk' hc4 hc5 hb2
      go_loopw [4, 8, 38] (fun v _ i wq => ∃ k : Nat, k ≤ 2 ∧ i = .int .i64 k ∧ (1 ≤ k → P.length ≤ 1048576) ∧ (2 ≤ k → D.length ≤ 1048576) ∧ Kd.R (Kd.int .u8) 5 wq w.heap.size (fun _ => True) v (partsL H P D k) ∧ Below w.heap.size w wq) (fun _ _ i _ => 2 - (intOf i).toNat)
      case atStart => exact ⟨0, Nat.zero_le _, rfl, fun h => absurd h (by omega), fun h => absurd h (by omega), Kd.R_lower hR'.out (Nat.le_succ _), hb'.out⟩
      case round =>
        obtain ⟨k, hk, rfl, hp1, hp2, hR, hb⟩ := hrel
        clear hR' hb' hgt
        have hR' := Lib.hid hR
        have hb' := Lib.hid hb
        have hp1' := Lib.hid hp1
        have hp2' := Lib.hid hp2
        obtain ⟨Aw, cw, rfl⟩ := Kd.R_slice hR
        clear hR hb hp1 hp2
        have hkk : k = 0 ∨ k = 1 ∨ k = 2 := by omega
        rcases hkk with rfl | rfl | rfl
        · have hidx := index2_0 A B P.length ca D.length cb
          have hidx' : ∀ W : World, (Instr.index 105 (.agg #[.slice A P.length ca, .slice B D.length cb]) (.int .i64 ((0 : Nat) : Int))).run Try.prog W = .ok (.slice A P.length ca) W := hidx
          have hFl : (partsL H P D 0).length ≤ 2000000 := by
            have h16 := hlen.out
            show (H).length ≤ 2000000
            skip
            omega
          have hnext : partsL H P D (0 + 1) = partsL H P D 0 ++ big4 P.length ++ P := rfl
          obtain ⟨F, hF⟩ : ∃ F, F = partsL H P D 0 := ⟨_, rfl⟩
          rw [← hF] at hFl hnext hR' ⊢
          have hFl' := Lib.hid hFl
          have hnext' := Lib.hid hnext
          clear hFl hnext hF
          by_cases hs : P.length ≤ 1048576
          · have hs' : ¬ 1048576 < P.length := by omega
            have hbg := fun w1 => big_any (P.length : Int) ⟨by omega, by omega⟩ w1
            obtain ⟨q, hq⟩ : ∃ q, q = big4 (P.length : Int) := ⟨_, rfl⟩
            have hql : q.length = 4 := by rw [hq]; rfl
            obtain ⟨X, hX⟩ : ∃ X, X = F ++ q := ⟨_, rfl⟩
            have hXl : X.length ≤ 2000004 := by rw [hX, List.length_append, hql]; have := hFl'.out; omega
            rw [← hq] at hbg hnext'
            rw [← hX] at hnext'
            have hbg' := Lib.hid hbg
            have hql' := Lib.hid hql
            have hXl' := Lib.hid hXl
            have hX' := Lib.hid hX
            have hsz' := Lib.hid hs
            clear hbg hql hXl hX hq hs
            go_wp2_with (first
              | (go_at_call 56; refine (hbg'.out _).mono ?_; rintro e w1 ⟨v1, rfl, hR1, hb1⟩; obtain ⟨A1, c1, rfl⟩ := Kd.R_slice hR1; have hC1 := Lib.hid (Kd.R_reads' hR1).2.2; have hR2 := Lib.hid (Kd.R_below hR'.out hb1); have hb2 := Lib.hid (below_step hb'.out hb1); clear hR1 hb1)
              | (at_builtin; refine Kd.R_append_rows (Kd.int .u8) (w0 := w) w.heap.size rfl (.tmp 44) (.tmp 48) 25 5 (.int .u8 0) 1 rfl Try.underlying25 info5 rfl (by decide) (by omega) (.slice Aw F.length cw) F q _ _ _ (fun _ => True) (fun _ => False) rfl rfl hR2.out hC1.out (fun _ _ h => h) (fun _ h => h.elim) (fun _ _ => trivial) hb2.out hb2.out.size (by have := hFl'.out; have := hql'.out; omega) ?_; rw [← hX'.out]; intro v7 w7 hR7 hb7 hg7 hat7; have hR7' := Lib.hid hR7; have hb7' := Lib.hid hb7; obtain ⟨A7, c7, rfl⟩ := Kd.R_slice hR7; clear hR7 hb7 hg7 hat7 hC1)
              | (at_builtin; refine Kd.R_append_rows (Kd.int .u8) (w0 := w) w.heap.size rfl (.tmp 50) (.tmp 51) 25 5 (.int .u8 0) 1 rfl Try.underlying25 info5 rfl (by decide) (by omega) (.slice A7 X.length c7) X P _ _ _ (fun _ => True) (fun _ => False) rfl rfl hR7'.out (Kd.C_below hP'.out hb7'.out) (fun _ _ h => h) (fun _ h => h.elim) (fun _ _ => trivial) hb7'.out hb7'.out.size (by have := hXl'.out; have := hsz'.out; omega) ?_; intro v8 w8 hR8 hb8 hg8 hat8; have hR8' := Lib.hid hR8; have hb8' := Lib.hid hb8; clear hR8 hb8 hg8 hat8))
            go_roundw
            case rel =>
              (repeat apply Exists.intro)
              refine ⟨?_, rfl⟩
              exact ⟨0 + 1, by omega, by go_num, fun _ => hsz'.out, fun _ => by omega, by rw [hnext'.out]; exact hR8'.out, hb8'.out⟩
            case measure => simp [intOf]
          · have hs' : 1048576 < P.length := by omega
            have hno : ¬ fits6 a0 a1 a2 a3 P D := fun h => hs h.2.1
            clear hs
            go_wp2_with fail
            go_ret2
            exact ⟨.slice none 0 0, rfl, Kd.R_nil _ _ _ _ _, hb'.out⟩
        · have hidx := index2_1 A B P.length ca D.length cb
          have hidx' : ∀ W : World, (Instr.index 105 (.agg #[.slice A P.length ca, .slice B D.length cb]) (.int .i64 ((1 : Nat) : Int))).run Try.prog W = .ok (.slice B D.length cb) W := hidx
          have hFl : (partsL H P D 1).length ≤ 2000000 := by
            have h16 := hlen.out
            show (H ++ big4 P.length ++ P).length ≤ 2000000
            simp only [List.length_append, big4_len]; have := hp1'.out (by omega)
            omega
          have hnext : partsL H P D (1 + 1) = partsL H P D 1 ++ big4 D.length ++ D := rfl
          obtain ⟨F, hF⟩ : ∃ F, F = partsL H P D 1 := ⟨_, rfl⟩
          rw [← hF] at hFl hnext hR' ⊢
          have hFl' := Lib.hid hFl
          have hnext' := Lib.hid hnext
          clear hFl hnext hF
          by_cases hs : D.length ≤ 1048576
          · have hs' : ¬ 1048576 < D.length := by omega
            have hbg := fun w1 => big_any (D.length : Int) ⟨by omega, by omega⟩ w1
            obtain ⟨q, hq⟩ : ∃ q, q = big4 (D.length : Int) := ⟨_, rfl⟩
            have hql : q.length = 4 := by rw [hq]; rfl
            obtain ⟨X, hX⟩ : ∃ X, X = F ++ q := ⟨_, rfl⟩
            have hXl : X.length ≤ 2000004 := by rw [hX, List.length_append, hql]; have := hFl'.out; omega
            rw [← hq] at hbg hnext'
            rw [← hX] at hnext'
            have hbg' := Lib.hid hbg
            have hql' := Lib.hid hql
            have hXl' := Lib.hid hXl
            have hX' := Lib.hid hX
            have hsz' := Lib.hid hs
            clear hbg hql hXl hX hq hs
            go_wp2_with (first
              | (go_at_call 56; refine (hbg'.out _).mono ?_; rintro e w1 ⟨v1, rfl, hR1, hb1⟩; obtain ⟨A1, c1, rfl⟩ := Kd.R_slice hR1; have hC1 := Lib.hid (Kd.R_reads' hR1).2.2; have hR2 := Lib.hid (Kd.R_below hR'.out hb1); have hb2 := Lib.hid (below_step hb'.out hb1); clear hR1 hb1)
              | (at_builtin; refine Kd.R_append_rows (Kd.int .u8) (w0 := w) w.heap.size rfl (.tmp 44) (.tmp 48) 25 5 (.int .u8 0) 1 rfl Try.underlying25 info5 rfl (by decide) (by omega) (.slice Aw F.length cw) F q _ _ _ (fun _ => True) (fun _ => False) rfl rfl hR2.out hC1.out (fun _ _ h => h) (fun _ h => h.elim) (fun _ _ => trivial) hb2.out hb2.out.size (by have := hFl'.out; have := hql'.out; omega) ?_; rw [← hX'.out]; intro v7 w7 hR7 hb7 hg7 hat7; have hR7' := Lib.hid hR7; have hb7' := Lib.hid hb7; obtain ⟨A7, c7, rfl⟩ := Kd.R_slice hR7; clear hR7 hb7 hg7 hat7 hC1)
              | (at_builtin; refine Kd.R_append_rows (Kd.int .u8) (w0 := w) w.heap.size rfl (.tmp 50) (.tmp 51) 25 5 (.int .u8 0) 1 rfl Try.underlying25 info5 rfl (by decide) (by omega) (.slice A7 X.length c7) X D _ _ _ (fun _ => True) (fun _ => False) rfl rfl hR7'.out (Kd.C_below hD'.out hb7'.out) (fun _ _ h => h) (fun _ h => h.elim) (fun _ _ => trivial) hb7'.out hb7'.out.size (by have := hXl'.out; have := hsz'.out; omega) ?_; intro v8 w8 hR8 hb8 hg8 hat8; have hR8' := Lib.hid hR8; have hb8' := Lib.hid hb8; clear hR8 hb8 hg8 hat8))
            go_roundw
            case rel =>
              (repeat apply Exists.intro)
              refine ⟨?_, rfl⟩
              exact ⟨1 + 1, by omega, by go_num, fun _ => hp1'.out (by omega), fun _ => hsz'.out, by rw [hnext'.out]; exact hR8'.out, hb8'.out⟩
            case measure => simp [intOf]
          · have hs' : 1048576 < D.length := by omega
            have hno : ¬ fits6 a0 a1 a2 a3 P D := fun h => hs h.2.2
            clear hs
            go_wp2_with fail
            go_ret2
            exact ⟨.slice none 0 0, rfl, Kd.R_nil _ _ _ _ _, hb'.out⟩
        · have hyes : fits6 a0 a1 a2 a3 P D := ⟨hfitA'.out, hp1'.out (by omega), hp2'.out (by omega)⟩
          rw [← htx.out] at hR' ⊢
          obtain ⟨X, hX⟩ : ∃ X, X = textL a0 a1 a2 a3 P D := ⟨_, rfl⟩
          rw [← hX] at hR' ⊢
          have hX' := Lib.hid hX
          clear hX
          go_wp2_with fail
          go_ret2
          refine ⟨_, rfl, ?_, hb'.out⟩
          rw [← hX'.out]
          exact hR'.out
end Go.Proofs.Ytiogdomjmjiahaa.Own
