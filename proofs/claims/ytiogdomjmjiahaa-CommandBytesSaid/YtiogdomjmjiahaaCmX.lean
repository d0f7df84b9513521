/- command.Parse, walked. -/
import Derived.Test.YtiogdomjmjiahaaCmR
import Derived.Laws.ResultCell
namespace Go.Proofs.Ytiogdomjmjiahaa.Own
open Go.RowKit Go.Proofs.Ytiogdomjmjiahaa.Arr Go.Proofs.Ytiogdomjmjiahaa.QA Go.Proofs.YtiogdomjmjiahaaW.PrintWords Go.Proofs.YtiogdomjmjiahaaW.PrintLast Go.Proofs.YtiogdomjmjiahaaW.PrintMore
set_option linter.unusedVariables false
set_option linter.unusedSimpArgs false
theorem part_none (A : Option Addr) (c : Nat) (l : List Int) (w : World) (hC : Kd.C (Kd.int .u8) w A l.length l) (hc : l.length ≤ c) (hlen : l.length ≤ 140737488351232) (hb : ∀ x ∈ l, byt x) (h : partF l = none) :
    Calls Try.prog 60 #[.slice A l.length c] w fun e w' => e = .returned (.tuple #[.slice none 0 0, .slice none 0 0, .bool false]) ∧ Drawn0 w w' := by
  by_cases h4 : l.length < 4
  · exact part_short A c l.length h4 w
  obtain ⟨m, hm, hm2⟩ := numL_take4 l (by omega) hb
  refine part_over A c l w hC hc (by omega) hlen m hm hm2 ?_
  unfold partF at h
  rw [if_neg h4, hm] at h
  by_cases ho : (m : Int) > 1048576 ∨ (m : Int) > (l.length : Int) - 4
  · omega
  · rw [if_neg ho] at h; cases h
theorem part_some (A : Option Addr) (c : Nat) (l p r : List Int) (w : World) (hC : Kd.C (Kd.int .u8) w A l.length l) (hc : l.length ≤ c) (hlen : l.length ≤ 140737488351232) (hb : ∀ x ∈ l, byt x) (h : partF l = some (p, r)) :
    Calls Try.prog 60 #[.slice A l.length c] w fun e w' => ∃ A1 c1 A2 c2, e = .returned (.tuple #[.slice A1 p.length c1, .slice A2 r.length c2, .bool true]) ∧ Kd.C (Kd.int .u8) w' A1 p.length p ∧ p.length ≤ c1 ∧ Kd.C (Kd.int .u8) w' A2 r.length r ∧ r.length ≤ c2 ∧ Below w.heap.size w w' := by
  unfold partF at h
  by_cases h4 : l.length < 4
  · rw [if_pos h4] at h; cases h
  rw [if_neg h4] at h
  obtain ⟨m, hm, hm2⟩ := numL_take4 l (by omega) hb
  rw [hm] at h
  by_cases ho : (m : Int) > 1048576 ∨ (m : Int) > (l.length : Int) - 4
  · rw [if_pos ho] at h; cases h
  rw [if_neg ho, Int.toNat_natCast] at h
  obtain ⟨rfl, rfl⟩ := Prod.mk.inj (Option.some.inj h)
  refine (part_good A c l w hC hc (by omega) hlen m hm (by omega) (by omega)).mono ?_
  rintro e w' ⟨A1, c1, A2, rfl, h1, h2, h3, h5⟩
  exact ⟨A1, c1, A2, _, rfl, h1, h2, h3, by rw [List.length_drop]; omega, h5⟩
theorem infoC : (Try.prog.info? 27).map (fun i => (i.zero, i.size)) = some (some (.agg (ccs 0 0 0 0 none 0 0 none 0 0)), 6) := by kernel_rfl
theorem info4i : (Try.prog.info? 103).map (fun i => (i.zero, i.size)) = some (some (.agg (ints .i64 (zer 4))), 4) := by kernel_rfl
theorem builtC6 (a0 a1 a2 a3 : Int) (A : Option Addr) (n c : Nat) (B : Option Addr) (m d : Nat) : Try.prog.built 27 (#[(0, .int .i64 a0), (1, .int .i64 a1), (2, .int .i64 a2), (3, .int .i64 a3), (4, .slice A n c), (5, .slice B m d)] : Array (Nat × Value)).toList = some (ccs a0 a1 a2 a3 A n c B m d) := by kernel_rfl
theorem builtC0 : Try.prog.built 27 (#[] : Array (Nat × Value)).toList = some (ccs 0 0 0 0 none 0 0 none 0 0) := by kernel_rfl
theorem ccs_one (a0 a1 a2 a3 : Int) (A : Option Addr) (n c : Nat) (B : Option Addr) (m d : Nat) : (ccs a0 a1 a2 a3 A n c B m d).all (·.oneCell') = true := by simp [Value.oneCell']
theorem ccs_size (a0 a1 a2 a3 : Int) (A : Option Addr) (n c : Nat) (B : Option Addr) (m d : Nat) : (ccs a0 a1 a2 a3 A n c B m d).size = 6 := rfl
theorem results_row_tmp {P : Program} {fn : Func} {p u : Tmp} {ty : TypeId} (h : fn.results = #[.cell p ty, .tmp u]) (tmps : Array Value) (w : World) (g : Nat) (t : TypeId) (cs : Array Value) (fr : Nat × Nat) (d : TypeDesc) (v : Value)
    (hp : tmps.getD p undef = .pointer (some ⟨g, 0, none⟩)) (hg : w.heap[g]? = some (.cells cs t fr)) (hv : tmps.getD u undef = v)
    (hu : P.underlying ty = some d) (hd : (match d with | .struct _ | .array _ _ => true | _ => false) = true) (hi : (P.info? ty).map (·.size) = some cs.size) :
    (results fn tmps).run P w = .ok (.tuple #[.agg cs, v]) w := by
  rw [results_cell_tmp h, hp, hv]
  simp [asAddr, run_loadVar_row w g t ty cs fr d hg hu hd hi, Result.andThen]
theorem C_setRow {w : World} {g : Nat} {Z cs : Array Value} {t : TypeId} {fr : Nat × Nat} {A : Option Addr} {l : List Int} (h : Kd.C (Kd.int .u8) w A l.length l) (hg : w.heap[g]? = some (.cells Z t fr)) (hZ : ∀ v ∈ Z, ∀ x, v ≠ .int .u8 x) :
    Kd.C (Kd.int .u8) (w.setRow g cs) A l.length l := by
  rcases Nat.eq_zero_or_pos l.length with h0 | h0
  · obtain rfl := List.length_eq_zero_iff.1 h0
    exact C_of_readsInt ⟨rfl, by simp, fun h => absurd h (Nat.lt_irrefl _)⟩
  · have hm := (readsInt_of_C h).2.1
    obtain ⟨b, o, rfl, hr⟩ := C_range h h0
    have hne : b ≠ g := by
      rintro rfl
      have := C_cell hr 0 h0
      rw [cell_of_row w b _ _ _ _ hg] at this
      exact hZ _ (Array.mem_of_getElem? this) _ rfl
    exact C_of_range hm (fun j v hj => by rw [cell_setRow_other _ _ _ _ (by exact hne)]; exact hr j v hj)
theorem ccs_not (a0 a1 a2 a3 : Int) (A : Option Addr) (n c : Nat) (B : Option Addr) (m d : Nat) : ∀ v ∈ ccs a0 a1 a2 a3 A n c B m d, ∀ x, v ≠ .int .u8 x := by
  intro v hv x
  simp [ccs] at hv
  rcases hv with rfl | rfl | rfl | rfl | rfl | rfl <;> simp
attribute [-go_sem] Instr.build
def ParseNo (w : World) (e : Ending) (w' : World) : Prop := e = .returned (.tuple #[.agg (ccs 0 0 0 0 none 0 0 none 0 0), .int .i64 1]) ∧ Below w.heap.size w w'
set_option maxHeartbeats 2000000 in
set_option maxRecDepth 100000 in
theorem parse_short (A : Option Addr) (c n : Nat) (h : n < 16) (w : World) : Calls Try.prog 20 #[.slice A n c] w (ParseNo w) := by
  have h' : (n : Int) < 16 := by omega
  clear h
  obtain ⟨hz, -⟩ := zero_of_info (P := Try.prog) infoC
  have hb0 : ∀ W : World, (Instr.build 27 #[]).run Try.prog W = .ok (.agg (ccs 0 0 0 0 none 0 0 none 0 0)) W := fun W => run_build W _ _ _ builtC0
  go_enter Try.func20, Try.ntmps20
  go_wp2_with (with_reducible refine wpList_store_row rfl 27 _ _ rfl w.heap.size (ccs 0 0 0 0 none 0 0 none 0 0) rfl rfl 27 (ccs 0 0 0 0 none 0 0 none 0 0) (heap_alloc_last _ _) sizeC rfl (ccs_one _ _ _ _ _ _ _ _ _ _) ?_)
  refine bodyPost_ret (v := .tuple #[.agg (ccs 0 0 0 0 none 0 0 none 0 0), .int .i64 1]) (results_row_tmp (p := 2) (u := 3) (ty := 27) rfl _ _ w.heap.size 27 _ (0, 0) _ _ rfl (heap_alloc_last _ _) rfl Try.underlying27 rfl sizeC) rfl ⟨rfl, ?_⟩
  exact (Below.refl _ _).alloc (Nat.le_refl _) _
/-- The k-th number. -/
def numAt (l : List Int) (k : Nat) : Int := numL ((l.drop (4 * k)).take 4)
def ParseYes (ns : Int × Int × Int × Int) (p d : List Int) (w : World) (e : Ending) (w' : World) : Prop := ∃ A1 c1 A2 c2, e = .returned (.tuple #[.agg (ccs ns.1 ns.2.1 ns.2.2.1 ns.2.2.2 A1 p.length c1 A2 d.length c2), .int .i64 0]) ∧ Kd.C (Kd.int .u8) w' A1 p.length p ∧ p.length ≤ c1 ∧ Kd.C (Kd.int .u8) w' A2 d.length d ∧ d.length ≤ c2 ∧ Below w.heap.size w w'
def ParseIs (w : World) (r : Option ((Int × Int × Int × Int) × List Int × List Int)) (e : Ending) (w' : World) : Prop := match r with | none => ParseNo w e w' | some (ns, p, d) => ParseYes ns p d w e w'
set_option maxHeartbeats 8000000 in
set_option maxRecDepth 100000 in
theorem parse_long (A : Option Addr) (c : Nat) (l : List Int) (w : World) (hC : Kd.C (Kd.int .u8) w A l.length l) (hc : l.length ≤ c) (hlen : l.length ≤ 140737488351232) (hb : ∀ x ∈ l, byt x) (h16 : 16 ≤ l.length) :
    Calls Try.prog 20 #[.slice A l.length c] w (ParseIs w (parseF l)) := by
  have h16' : ¬ (l.length : Int) < 16 := by omega
  obtain ⟨hz, -⟩ := zero_of_info (P := Try.prog) infoC
  obtain ⟨hz4, -⟩ := zero_of_info (P := Try.prog) info4i
  obtain ⟨i0, hi, -, hs, -⟩ := info_parts info5
  -- the four numbers
  have hnums : ∀ k, k < 4 → ∃ (B : Option Addr) (q m : Nat), numAt l k = (m : Int) ∧ m < 4294967296 ∧ (∀ W : World, (Instr.slice 25 (.slice A l.length c) (some (.int .i64 (4 * (k : Int)))) (some (.int .i64 (4 * (k : Int) + 4))) none).run Try.prog W = .ok (.slice B 4 q) W) ∧ ∀ w1, Below w.heap.size w w1 → Calls Try.prog 59 #[.slice B 4 q] w1 fun e w' => e = .returned (.int .u64 (m : Int)) ∧ Drawn0 w1 w' := by
    intro k hk
    obtain ⟨B, hcb, hB⟩ := cut2 (P := Try.prog) 25 5 .i64 .i64 .u8 Try.underlying25 hi hs A l.length c (4 * k) (4 * k + 4) l (by omega) (by omega) hc
    obtain ⟨m, hm, hm2⟩ := numL_take4 (l.drop (4 * k)) (by rw [List.length_drop]; omega) (fun x hx => hb x (List.mem_of_mem_drop hx))
    have hL : ((l.drop (4 * k)).take 4).length = 4 := by rw [List.length_take, List.length_drop]; omega
    have e1 : 4 * k + 4 - 4 * k = 4 := by omega
    refine ⟨B, c - 4 * k, m, hm, hm2, fun W => ?_, fun w1 hb1 => ?_⟩
    · have := hcb W
      rw [e1] at this
      rw [show (4 * (k : Int)) = ((4 * k : Nat) : Int) by omega, show (((4 * k : Nat) : Int) + 4) = ((4 * k + 4 : Nat) : Int) by omega]
      exact this
    · have hr := C_of_readsInt (hB w1 (readsInt_of_C (Kd.C_below hC hb1)))
      rw [List.drop_take, e1] at hr
      rw [← hL] at hr
      have hn := num_any B (c - 4 * k) _ w1 (by rw [hL] at hr ⊢; exact hr) (by rw [hL]; omega)
      rw [hL, show 4 - 8 = 0 from rfl, List.drop_zero, hm] at hn
      exact hn
  -- what is behind
  have hcf := cut_from A l.length c 16 h16
  have hCd := Kd.C_drop (c := c) (m := 16) hC h16 hc
  have hRl : (l.drop 16).length = l.length - 16 := List.length_drop
  obtain ⟨A2, hA2⟩ : ∃ A2, A2 = (if c = 16 then A else A.map (·.add 16)) := ⟨_, rfl⟩
  have hCd2 : Kd.C (Kd.int .u8) w A2 (l.drop 16).length (l.drop 16) := by
    rw [hA2]
    have e : 16 * (Kd.int .u8).sz = 16 := Nat.mul_one _
    rw [e] at hCd
    exact hCd
  rw [← hA2, ← hRl] at hcf
  have hbR : ∀ x ∈ l.drop 16, byt x := fun x hx => hb x (List.mem_of_mem_drop hx)
  have hlR : (l.drop 16).length ≤ 140737488351232 := by omega
  have hcR : (l.drop 16).length ≤ c - 16 := by omega
  have hpf : parseF l = (partF (l.drop 16)).bind fun p => (partF p.2).bind fun d => if d.2.length > 0 then none else some ((numAt l 0, numAt l 1, numAt l 2, numAt l 3), p.1, d.1) := by
    unfold parseF numAt
    rw [if_neg (by omega)]
    rfl
  rw [hpf]
  obtain ⟨R, hR⟩ : ∃ R, R = l.drop 16 := ⟨_, rfl⟩
  rw [← hR] at hcf hCd2 hbR hlR hcR ⊢
  obtain ⟨N, hN⟩ : ∃ N : Nat → Int, N = numAt l := ⟨_, rfl⟩
  rw [← hN] at hnums ⊢
  obtain ⟨cr, hcr⟩ : ∃ cr, cr = c - 16 := ⟨_, rfl⟩
  rw [← hcr] at hcf hcR
  have hnums' := Lib.hid hnums
  have hcf' := Lib.hid hcf
  have hCd' := Lib.hid hCd2
  have hbR' := Lib.hid hbR
  have hlR' := Lib.hid hlR
  have hcR' := Lib.hid hcR
  clear hnums hcf hCd2 hCd hbR hlR hcR hR hN hcr hA2 hRl hpf hC hc hlen hb h16 hi hs
  have hb0 : ∀ W : World, (Instr.build 27 #[]).run Try.prog W = .ok (.agg (ccs 0 0 0 0 none 0 0 none 0 0)) W := fun W => run_build W _ _ _ builtC0
  obtain ⟨Z, hZ⟩ : ∃ Z : Array Value, Z = ccs 0 0 0 0 none 0 0 none 0 0 := ⟨_, rfl⟩
  rw [← hZ] at hz hb0
  have hZs := Lib.hid (show Z.size = 6 by rw [hZ]; rfl)
  have hZo := Lib.hid (show Z.all (·.oneCell') = true by rw [hZ]; exact ccs_one _ _ _ _ _ _ _ _ _ _)
  have hZ' := Lib.hid hZ
  clear hZ
  go_enter Try.func20, Try.ntmps20
  go_wp2_with fail
  go_loopw [16] (fun i wr => ∃ k : Nat, k ≤ 4 ∧ i = .int .i64 k ∧ ∃ xs : List Int, xs.length = 4 ∧ (∀ j, j < k → xs.getD j 0 = N j) ∧ wr.heap[w.heap.size]? = some (.cells Z 27 (0, 0)) ∧ wr.heap[w.heap.size + 1]? = some (.cells (ints .i64 xs) 103 (0, 0)) ∧ Below w.heap.size w wr) (fun i _ => 4 - (intOf i).toNat)
  case atStart =>
    refine ⟨0, Nat.zero_le _, rfl, zer 4, rfl, fun j hj => absurd hj (Nat.not_lt_zero _), ?_, ?_, ?_⟩
    · rw [heap_skip _ _ _ (by simp)]; exact heap_alloc_last _ _
    · exact heap_at _ _ _ (by simp)
    · exact ((Below.refl _ _).alloc (Nat.le_refl _) _).alloc (by simp) _
  case round =>
    obtain ⟨k, hk, rfl, xs, hxl, hxs, hg0, hg1, hbw⟩ := hrel
    have hxl' := Lib.hid hxl
    have hxs' := Lib.hid hxs
    have hg0' := Lib.hid hg0
    have hg1' := Lib.hid hg1
    have hbw' := Lib.hid hbw
    by_cases hlt : k < 4
    · obtain ⟨B, q, m, hm, hm2, hcut, hcall⟩ := hnums'.out k hlt
      have hcell := ints_cell hg1 k (by omega)
      have hfree := ints_free hg1 k
      have hm' := Lib.hid hm
      have hcall' := Lib.hid hcall
      have hm0 : 0 ≤ (m : Int) := by omega
      have hm1 : (m : Int) ≤ 4294967295 := by omega
      clear hxl hxs hg0 hg1 hbw hm hcall hm2 hz hz4 hb0 h16' hcf' hCd' hbR' hlR' hcR' hnums' hk
      go_wp2_with (go_at_call 59; refine (hcall'.out _ hbw'.out).mono ?_; rintro e w1 ⟨rfl, ⟨nd, rfl⟩⟩)
      refine ⟨⟨k + 1, by omega, by go_num, xs.set k (m : Int), ?_, ?_, ?_, ?_, ?_⟩, ?measure⟩
      · rw [List.length_set]; exact hxl'.out
      · intro j hj
        have hl := hxl'.out
        by_cases hjk : j = k
        · subst hjk
          rw [hm'.out, List.getD_eq_getElem?_getD, List.getElem?_set_self (by omega)]; rfl
        · rw [List.getD_eq_getElem?_getD, List.getElem?_set_ne (by omega), ← List.getD_eq_getElem?_getD]
          exact hxs'.out j (by omega)
      · refine (heap_setCell_other _ _ _ _ (by simp)).trans ?_; exact hg0'.out
      · refine (heap_setCell_same _ _ _ _ _ _ (by exact hg1'.out)).trans ?_
        rw [ints_set]
      · exact (pw_below_drewN hbw'.out _).setCell (by simp) _
      case measure => simp [intOf]; omega
    · obtain rfl : k = 4 := by omega
      clear hnums' hxl hxs hg0 hg1 hbw hlt hk
      match xs, hxl'.out with
      | [x0, x1, x2, x3], _ =>
        have q0 : x0 = N 0 := hxs'.out 0 (by omega)
        have q1 : x1 = N 1 := hxs'.out 1 (by omega)
        have q2 : x2 = N 2 := hxs'.out 2 (by omega)
        have q3 : x3 = N 3 := hxs'.out 3 (by omega)
        have hq := Lib.hid (show (N 0, N 1, N 2, N 3) = (x0, x1, x2, x3) by rw [q0, q1, q2, q3])
        clear q0 q1 q2 q3 hxs' hxl'
        have hcf : ∀ W : World, (Instr.slice 25 (.slice A l.length c) (some (.int .i64 16)) none none).run Try.prog W = .ok (.slice A2 R.length cr) W := hcf'.out
        clear hcf'
        have hgone : ∀ (w1 : World) (h : Below wr.heap.size wr w1), w1.heap[w.heap.size]? = some (.cells Z 27 (0, 0)) := fun w1 h => heap_below hg0'.out h
        have hgone' := Lib.hid hgone
        have hg0n := Lib.hid (fun n : Nat => show (wr.drewN n).heap[w.heap.size]? = some (.cells Z 27 (0, 0)) by rw [World.heap_drewN]; exact hg0'.out)
        have hgn := Lib.hid (fun (n : Nat) (w1 : World) (h : Below wr.heap.size wr w1) => show (w1.drewN n).heap[w.heap.size]? = some (.cells Z 27 (0, 0)) by rw [World.heap_drewN]; exact hgone'.out w1 h)
        clear hgone
        cases hp : partF R with
        | none =>
          have hpn := Lib.hid (fun (w1 : World) (h : Below w.heap.size w w1) => part_none A2 cr R w1 (Kd.C_below hCd'.out h) hcR'.out hlR'.out hbR'.out hp)
          have hpe := Lib.hid (fun (w1 : World) => part_short none 0 0 (by omega) w1)
          have hp' := Lib.hid hp
          clear hp hCd' hbR' hlR' hcR'
          go_wp2_with (first
            | ((with_reducible go_at_call 60); refine (hpn.out _ hbw'.out).mono ?_; clear hpn; rintro e w1 ⟨rfl, ⟨nd, rfl⟩⟩)
            | ((with_reducible go_at_call 60); refine (hpe.out _).mono ?_; rintro e w1 ⟨rfl, ⟨nd2, rfl⟩⟩)
            | (with_reducible refine wpList_store_row rfl 27 _ _ rfl w.heap.size Z rfl rfl 27 Z (hg0n.out _) (by rw [hZs.out]; exact sizeC) rfl hZo.out ?_))
          have hsz : (Try.prog.info? 27).map (·.size) = some (Array.size Z) := by rw [hZs.out]; exact sizeC
          have hcl := setRow_heap _ w.heap.size Z Z 27 (0, 0) (hg0n.out (nd + nd2))
          refine bodyPost_ret (v := .tuple #[.agg Z, .int .i64 1]) (results_row_tmp (p := 2) (u := 3) (ty := 27) rfl _ _ w.heap.size 27 _ (0, 0) _ _ rfl hcl rfl Try.underlying27 rfl hsz) rfl ?_
          rw [hp'.out]
          exact ⟨by rw [hZ'.out], below_setRow (pw_below_drewN hbw'.out _) (Nat.le_refl _) _⟩
        | some pr =>
          obtain ⟨p, r⟩ := pr
          have hps := Lib.hid (fun (w1 : World) (h : Below w.heap.size w w1) => part_some A2 cr R p r w1 (Kd.C_below hCd'.out h) hcR'.out hlR'.out hbR'.out hp)
          have hsub := partF_some R p r hbR'.out hp
          have hbr := Lib.hid (show ∀ x ∈ r, byt x from fun x hx => hbR'.out x (by rw [hsub.1]; simp [hx]))
          have hlr := Lib.hid (show r.length ≤ 140737488351232 by have := congrArg List.length hsub.1; have := hlR'.out; simp only [List.length_append] at *; omega)
          have hp' := Lib.hid hp
          clear hp hCd' hbR' hlR' hcR' hsub
          cases hd : partF r with
          | none =>
            have hd' := Lib.hid hd
            have hd2 := Lib.hid (fun (A : Option Addr) (c : Nat) (w1 : World) (hC : Kd.C (Kd.int .u8) w1 A r.length r) (hc : r.length ≤ c) => part_none A c r w1 hC hc hlr.out hbr.out hd)
            clear hd
            go_wp2_with (first
              | ((with_reducible go_at_call 60); refine (hps.out _ hbw'.out).mono ?_; clear hps; rintro e w1 ⟨A3, c3, A4, c4, rfl, hC3, hc3, hC4, hc4, hbp⟩; have hC4' := Lib.hid hC4; have hc4' := Lib.hid hc4; have hbp' := Lib.hid hbp; clear hC3 hc3 hC4 hc4 hbp)
              | ((with_reducible go_at_call 60); refine (hd2.out _ _ _ hC4'.out hc4'.out).mono ?_; rintro e w2 ⟨rfl, ⟨nd2, rfl⟩⟩)
              | (with_reducible refine wpList_store_row rfl 27 _ _ rfl w.heap.size Z rfl rfl 27 Z (hgn.out _ _ hbp'.out) (by rw [hZs.out]; exact sizeC) rfl hZo.out ?_))
            have hsz : (Try.prog.info? 27).map (·.size) = some (Array.size Z) := by rw [hZs.out]; exact sizeC
            have hcl := setRow_heap _ w.heap.size Z Z 27 (0, 0) (hgn.out nd2 _ hbp'.out)
            refine bodyPost_ret (v := .tuple #[.agg Z, .int .i64 1]) (results_row_tmp (p := 2) (u := 3) (ty := 27) rfl _ _ w.heap.size 27 _ (0, 0) _ _ rfl hcl rfl Try.underlying27 rfl hsz) rfl ?_
            rw [hp'.out, Option.bind_some, hd'.out]
            exact ⟨by rw [hZ'.out], below_setRow (pw_below_drewN (below_step hbw'.out hbp'.out) _) (Nat.le_refl _) _⟩
          | some dr =>
            obtain ⟨d, e⟩ := dr
            have hd' := Lib.hid hd
            have hd2 := Lib.hid (fun (A : Option Addr) (c : Nat) (w1 : World) (hC : Kd.C (Kd.int .u8) w1 A r.length r) (hc : r.length ≤ c) => part_some A c r d e w1 hC hc hlr.out hbr.out hd)
            clear hd
            by_cases he : 0 < e.length
            · have he' : (0 : Int) < (e.length : Int) := by omega
              have he2 := Lib.hid he
              clear he
              go_wp2_with (first
                | ((with_reducible go_at_call 60); refine (hps.out _ hbw'.out).mono ?_; clear hps; rintro e w1 ⟨A3, c3, A4, c4, rfl, hC3, hc3, hC4, hc4, hbp⟩; have hC4' := Lib.hid hC4; have hc4' := Lib.hid hc4; have hbp' := Lib.hid hbp; clear hC3 hc3 hC4 hc4 hbp)
                | ((with_reducible go_at_call 60); refine (hd2.out _ _ _ hC4'.out hc4'.out).mono ?_; rintro e w2 ⟨A5, c5, A6, c6, rfl, hC5, hc5, hC6, hc6, hbq⟩; have hbq' := Lib.hid (hbp'.out.trans (hbq.mono hbp'.out.size)); clear hC5 hc5 hC6 hc6 hbq)
                | (with_reducible refine wpList_store_row rfl 27 _ _ rfl w.heap.size Z rfl rfl 27 Z (hgone'.out _ hbq'.out) (by rw [hZs.out]; exact sizeC) rfl hZo.out ?_))
              have hsz : (Try.prog.info? 27).map (·.size) = some (Array.size Z) := by rw [hZs.out]; exact sizeC
              have hcl := setRow_heap _ w.heap.size Z Z 27 (0, 0) (hgone'.out _ hbq'.out)
              refine bodyPost_ret (v := .tuple #[.agg Z, .int .i64 1]) (results_row_tmp (p := 2) (u := 3) (ty := 27) rfl _ _ w.heap.size 27 _ (0, 0) _ _ rfl hcl rfl Try.underlying27 rfl hsz) rfl ?_
              rw [hp'.out, Option.bind_some, hd'.out, Option.bind_some, if_pos he2.out]
              exact ⟨by rw [hZ'.out], below_setRow (below_step hbw'.out hbq'.out) (Nat.le_refl _) _⟩
            · have he' : ¬ (0 : Int) < (e.length : Int) := by omega
              have he2 := Lib.hid he
              clear he
              have hbc : ∀ (A B : Option Addr) (n c m d : Nat) (W : World), (Instr.build 27 #[(0, .int .i64 x0), (1, .int .i64 x1), (2, .int .i64 x2), (3, .int .i64 x3), (4, .slice A n c), (5, .slice B m d)]).run Try.prog W = .ok (.agg (ccs x0 x1 x2 x3 A n c B m d)) W := fun A B n c m d W => run_build W _ _ _ (builtC6 x0 x1 x2 x3 A n c B m d)
              obtain ⟨G, hG⟩ : ∃ G : Option Addr → Option Addr → Nat → Nat → Nat → Nat → Array Value, G = fun A B n c m d => ccs x0 x1 x2 x3 A n c B m d := ⟨_, rfl⟩
              have hbg : ∀ (A B : Option Addr) (n c m d : Nat) (W : World), (Instr.build 27 #[(0, .int .i64 x0), (1, .int .i64 x1), (2, .int .i64 x2), (3, .int .i64 x3), (4, .slice A n c), (5, .slice B m d)]).run Try.prog W = .ok (.agg (G A B n c m d)) W := by rw [hG]; exact hbc
              have hGs := Lib.hid (show ∀ A B n c m d, (G A B n c m d).size = 6 by rw [hG]; intros; rfl)
              have hGo := Lib.hid (show ∀ A B n c m d, (G A B n c m d).all (·.oneCell') = true by rw [hG]; intros; exact ccs_one _ _ _ _ _ _ _ _ _ _)
              have hG' := Lib.hid hG
              clear hG hbc
              go_wp2_with (first
                | ((with_reducible go_at_call 60); refine (hps.out _ hbw'.out).mono ?_; clear hps; rintro e w1 ⟨A3, c3, A4, c4, rfl, hC3, hc3, hC4, hc4, hbp⟩; have hC3' := Lib.hid hC3; have hc3' := Lib.hid hc3; have hC4' := Lib.hid hC4; have hc4' := Lib.hid hc4; have hbp' := Lib.hid hbp; clear hC3 hc3 hC4 hc4 hbp)
                | ((with_reducible go_at_call 60); refine (hd2.out _ _ _ hC4'.out hc4'.out).mono ?_; rintro e w2 ⟨A5, c5, A6, c6, rfl, hC5, hc5, hC6, hc6, hbq⟩; have hC32 := Lib.hid (Kd.C_below hC3'.out hbq); have hC5' := Lib.hid hC5; have hc5' := Lib.hid hc5; have hbq' := Lib.hid (hbp'.out.trans (hbq.mono hbp'.out.size)); have hy := Lib.hid (heap_below hg1'.out hbq'.out); have y0 : w2.cell? ⟨w.heap.size + 1, 0, none⟩ = some (.int .i64 x0) := ints_cell hy.out 0 (by simp); have y1 : w2.cell? ⟨w.heap.size + 1, 1, none⟩ = some (.int .i64 x1) := ints_cell hy.out 1 (by simp); have y2 : w2.cell? ⟨w.heap.size + 1, 2, none⟩ = some (.int .i64 x2) := ints_cell hy.out 2 (by simp); have y3 : w2.cell? ⟨w.heap.size + 1, 3, none⟩ = some (.int .i64 x3) := ints_cell hy.out 3 (by simp); clear hC5 hc5 hC6 hc6 hbq)
                | (with_reducible refine wpList_store_row rfl 27 _ _ rfl w.heap.size (G A3 A5 p.length c3 d.length c5) rfl rfl 27 Z (hgone'.out _ hbq'.out) (by rw [hGs.out]; exact sizeC) (by rw [hGs.out, hZs.out]) (hGo.out _ _ _ _ _ _) ?_))
              have hsz : (Try.prog.info? 27).map (·.size) = some (Array.size (G A3 A5 p.length c3 d.length c5)) := by rw [hGs.out]; exact sizeC
              have hcl := setRow_heap _ w.heap.size Z (G A3 A5 p.length c3 d.length c5) 27 (0, 0) (hgone'.out _ hbq'.out)
              refine bodyPost_ret (v := .tuple #[.agg (G A3 A5 p.length c3 d.length c5), .int .i64 0]) (results_row_tmp (p := 2) (u := 3) (ty := 27) rfl _ _ w.heap.size 27 _ (0, 0) _ _ rfl hcl rfl Try.underlying27 rfl hsz) rfl ?_
              rw [hp'.out, Option.bind_some, hd'.out, Option.bind_some, if_neg he2.out, hq.out]
              refine ⟨A3, c3, A5, c5, by rw [hG'.out], ?_, hc3'.out, ?_, hc5'.out, below_setRow (below_step hbw'.out hbq'.out) (Nat.le_refl _) _⟩
              · exact C_setRow hC32.out (hgone'.out _ hbq'.out) (by rw [hZ'.out]; exact ccs_not _ _ _ _ _ _ _ _ _ _)
              · exact C_setRow hC5'.out (hgone'.out _ hbq'.out) (by rw [hZ'.out]; exact ccs_not _ _ _ _ _ _ _ _ _ _)
theorem parse_any (A : Option Addr) (c : Nat) (l : List Int) (w : World) (hC : Kd.C (Kd.int .u8) w A l.length l) (hc : l.length ≤ c) (hlen : l.length ≤ 140737488351232) (hb : ∀ x ∈ l, byt x) :
    Calls Try.prog 20 #[.slice A l.length c] w (ParseIs w (parseF l)) := by
  by_cases h16 : l.length < 16
  · have : parseF l = none := by unfold parseF; rw [if_pos h16]
    rw [this]
    exact parse_short A c l.length h16 w
  · exact parse_long A c l w hC hc hlen hb (by omega)
end Go.Proofs.Ytiogdomjmjiahaa.Own
