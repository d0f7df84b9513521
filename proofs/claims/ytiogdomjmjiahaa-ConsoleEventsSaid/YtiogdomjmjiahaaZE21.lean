/- QCx2, pruned (slim.py). -/
import Derived.Test.YtiogdomjmjiahaaZE3
import Derived.Test.YtiogdomjmjiahaaZE19
import Derived.Test.YtiogdomjmjiahaaZE17
import Derived.Test.YtiogdomjmjiahaaZE15
import Derived.Test.YtiogdomjmjiahaaZE20
namespace Go.Proofs.Ytiogdomjmjiahaa.Own
end Go.Proofs.Ytiogdomjmjiahaa.Own
namespace Go.Proofs.Ytiogdomjmjiahaa.QA
end Go.Proofs.Ytiogdomjmjiahaa.QA
namespace Go.Proofs.Ytiogdomjmjiahaa.QB
end Go.Proofs.Ytiogdomjmjiahaa.QB
namespace Go.Proofs.Ytiogdomjmjiahaa.QC
open Go.RowKit Go.Proofs.Ytiogdomjmjiahaa.Own Go.Proofs.Ytiogdomjmjiahaa.QA Go.Proofs.Ytiogdomjmjiahaa.QB Go.Proofs.YtiogdomjmjiahaaW.PrintWords Go.Proofs.YtiogdomjmjiahaaW.PrintLast Go.Proofs.YtiogdomjmjiahaaW.PrintMore
attribute [local go_sem] max2_int min2_int max_two min_two max_three min_three max_four min_four   -- for this text's walks alone
set_option linter.unusedVariables false
set_option linter.unusedSimpArgs false
mutual
def console_told.j0 : Nat → List ByteArray → ByteArray → Bool → Int → Int → Int → Int → Option (Int × Int × Int × Int × List Int × List Int × Bool)
  | 0, _, _, _, _, _, _, _ => none
  | k + 1, x0, x5, x27, x157000, x157001, x157002, x157003 => if x27 = true then (some (0, 0, 0, 0, ([] : List Int), ([] : List Int), false)) else (console_told.l0 k x0 x5 (x5.size : Int) 0 x157000 x157001 x157002 x157003 ([] : List Int) ([] : List Int))
def console_told.l0 : Nat → List ByteArray → ByteArray → Int → Int → Int → Int → Int → Int → List Int → List Int → Option (Int × Int × Int × Int × List Int × List Int × Bool)
  | 0, _, _, _, _, _, _, _, _, _, _ => none
  | k + 1, x0, x5, x30, x31, x157000, x157001, x157002, x157003, x157004, x157005 => if x31 < x30 then (if 0 ≤ (wrap64 (x31 + 1)) then (if (wrap64 (x31 + 1)) < (x0.length : Int) then (if 0 ≤ x31 then (if x31 < (x5.size : Int) then (if (bt x5 x31) = 110 then ((console_Number.f (rdOf ByteArray.empty x0 (wrap64 (x31 + 1)))).bind fun bt159 => (if bt159.2 = true then (console_told.l0 k x0 x5 x30 (wrap64 (x31 + 1)) x157000 bt159.1 x157002 x157003 x157004 x157005) else (some (0, 0, 0, 0, ([] : List Int), ([] : List Int), false)))) else (if (bt x5 x31) = 108 then ((console_Number.f (rdOf ByteArray.empty x0 (wrap64 (x31 + 1)))).bind fun bt161 => (if bt161.2 = true then (console_told.l0 k x0 x5 x30 (wrap64 (x31 + 1)) x157000 x157001 bt161.1 x157003 x157004 x157005) else (some (0, 0, 0, 0, ([] : List Int), ([] : List Int), false)))) else (if (bt x5 x31) = 99 then ((console_Number.f (rdOf ByteArray.empty x0 (wrap64 (x31 + 1)))).bind fun bt163 => (if bt163.2 = true then (console_told.l0 k x0 x5 x30 (wrap64 (x31 + 1)) x157000 x157001 x157002 bt163.1 x157004 x157005) else (some (0, 0, 0, 0, ([] : List Int), ([] : List Int), false)))) else (if (bt x5 x31) = 112 then ((console_bytes.f (rdOf ByteArray.empty x0 (wrap64 (x31 + 1)))).bind fun bt165 => (if bt165.2 = true then (console_told.l0 k x0 x5 x30 (wrap64 (x31 + 1)) x157000 x157001 x157002 x157003 bt165.1 x157005) else (some (0, 0, 0, 0, ([] : List Int), ([] : List Int), false)))) else (if (bt x5 x31) = 100 then ((console_bytes.f (rdOf ByteArray.empty x0 (wrap64 (x31 + 1)))).bind fun bt169 => (if bt169.2 = true then (console_told.l0 k x0 x5 x30 (wrap64 (x31 + 1)) x157000 x157001 x157002 x157003 x157004 bt169.1) else (some (0, 0, 0, 0, ([] : List Int), ([] : List Int), false)))) else (some (0, 0, 0, 0, ([] : List Int), ([] : List Int), false))))))) else (none)) else (none)) else (none)) else (none)) else (some (x157000, x157001, x157002, x157003, x157004, x157005, true))
end
def console_told.f (k : Nat) (l0 : List ByteArray) : Option (Int × Int × Int × Int × List Int × List Int × Bool) := if 0 < (l0.length : Int) then ((console_kind.f k (rdOf ByteArray.empty l0 0)).bind fun t155 => ((console_asks.f k t155).bind fun t157 => (if t155 = 0 then (console_told.j0 k l0 t157 true t155 0 0 0) else (console_told.j0 k l0 t157 ((l0.length : Int) != (wrap64 ((t157.size : Int) + 1))) t155 0 0 0)))) else (none)
set_option maxHeartbeats 8000000 in
set_option maxRecDepth 100000 in
theorem console_told.calls (k : Nat) (A0 : Option Addr) (c0 : Nat) (l0 : List ByteArray) (r1 : Int) (r2 : Int) (r3 : Int) (r4 : Int) (r5 : List Int) (r6 : List Int) (r7 : Bool) (w : World) (hr0 : Kd.C Kd.string w A0 l0.length l0) (hc0 : l0.length ≤ c0) (h : console_told.f k l0 = some (r1, r2, r3, r4, r5, r6, r7)) :
    Calls Try.prog 88 #[.slice A0 l0.length c0] w fun e w' => ∃ v4_ v5_ : Value, e = .returned (.tuple #[.agg #[.int .i64 r1, .int .i64 r2, .int .i64 r3, .int .i64 r4, v4_, v5_], .bool r7]) ∧ Kd.R (Kd.int .u8) 5 w' w.heap.size (fun k_ => some k_ ≠ (v5_ : Value).ownBlock) v4_ r5 ∧ Kd.R (Kd.int .u8) 5 w' w.heap.size (fun k_ => some k_ ≠ (v4_ : Value).ownBlock) v5_ r6 ∧ Below w.heap.size w w' := by
  have hu27 := Try.underlying27
  have HR0 := Aside0.mk hr0
  have HC0 := Aside0.mk hc0
  clear hr0 hc0
  have HB := Aside0.mk (Below.refl w.heap.size w)
  have H : (if 0 < (l0.length : Int) then ((console_kind.f k (rdOf ByteArray.empty l0 0)).bind fun t155 => ((console_asks.f k t155).bind fun t157 => (if t155 = 0 then (console_told.j0 k l0 t157 true t155 0 0 0) else (console_told.j0 k l0 t157 ((l0.length : Int) != (wrap64 ((t157.size : Int) + 1))) t155 0 0 0)))) else (none)) = some (r1, r2, r3, r4, r5, r6, r7) := h
  clear h
  by_cases c2 : 0 < (l0.length : Int)
  · rw [if_pos c2] at H
    have c2b0 : decide (0 < (l0.length : Int)) = true := decide_eq_true c2
    have c2b1 : decide (0 < l0.length) = true := decide_eq_true (by omega)
    clear c2
    replace H := Option.bind_eq_some_iff.mp H
    obtain ⟨t155, A30, H⟩ := H
    replace H : ((console_asks.f k t155).bind fun t157 => (if t155 = 0 then (console_told.j0 k l0 t157 true t155 0 0 0) else (console_told.j0 k l0 t157 ((l0.length : Int) != (wrap64 ((t157.size : Int) + 1))) t155 0 0 0))) = some (r1, r2, r3, r4, r5, r6, r7) := H
    have A3 := Aside0.mk A30
    clear A30
    replace H := Option.bind_eq_some_iff.mp H
    obtain ⟨t157, A40, H⟩ := H
    replace H : (if t155 = 0 then (console_told.j0 k l0 t157 true t155 0 0 0) else (console_told.j0 k l0 t157 ((l0.length : Int) != (wrap64 ((t157.size : Int) + 1))) t155 0 0 0)) = some (r1, r2, r3, r4, r5, r6, r7) := H
    have A4 := Aside0.mk A40
    clear A40
    have HC5 := Aside0.mk H
    clear H
    go_enter Try.func88, Try.ntmps88
    go_upto_region 3 with (first | ((with_reducible refine gate_dst (N := 2) rfl ?_); (try (refine gate_guard (by rfl) ?_; dsimp only)); refine box_event ?hg (N := 2) ?hd (cs := #[.int .i64 0, .int .i64 0, .int .i64 0, .int .i64 0, .slice none 0 0, .slice none 0 0]) (t := 27) ?hr ?_; (case hd => rfl); (case hg => rfl); (case hr => first | (go_simp; done) | (go_simp; rfl) | (go_simp; simp only [IntKind.wrap_u32, Int.emod_add_emod, Int.add_emod_emod])); intro gb153 hg w6 hbox hb; have n0_ := Aside0.mk (below_step (by repeat (first | (with_reducible first | exact HB.out | apply below_alloc | apply pw_below_drewN | apply below_drew1) | exact HB.out)) hb); have n1_ := Aside0.mk (hbox); have n2_ := Aside0.mk ((by rw [hg]; exact (below_size (by repeat (first | (with_reducible first | exact HB.out | apply below_alloc | apply pw_below_drewN | apply below_drew1) | exact HB.out))) : w.heap.size ≤ gb153)); have n3_ := Aside0.mk ((by rw [hg]; exact (below_size (by repeat (first | (with_reducible first | exact HB.out | apply below_alloc | apply pw_below_drewN | apply below_drew1) | exact HB.out))) : w.heap.size ≤ gb153)); clear HB; have HB := n0_; have BK153 := n1_; have GW153 := n2_; have GE153 := n3_; clear n0_ n1_ n2_ n3_; clear hb hbox hg; have p154 : 0 ≤ (0 : Int) := (by omega); have q154 : 0 < (l0.length : Int) := of_decide_eq_true (by first | (with_reducible assumption) | assumption); obtain ⟨ad154, e154, hx154_0⟩ := Kd.at_string HR0.out 0 p154 q154; cases e154; have qi154 : (0 < l0.length) = True := eq_true (by omega); (try rw [show ((0 : Int)).toNat = 0 from rfl] at hx154_0); (try rw [Addr.add_zero'] at hx154_0); replace hx154_0 := (HB.out.cell (World.block_lt_of_cell? w _ hx154_0)).trans hx154_0; replace p154 := eq_true p154; replace q154 := eq_true q154) | ((with_reducible refine gate_callee (f := 98) rfl ?_); refine goesL_ (some 12) rfl rfl Try.func98 (by kernel_rfl) rfl #[.string (rdOf ByteArray.empty l0 0)] rfl (by (try simp only [List.map_toArray, List.map_cons, List.map_nil]); first | done | rfl | (simp only [List.length_drop, List.length_take]; rfl)) ?_; (with_reducible refine (console_kind.calls k (rdOf ByteArray.empty l0 0) t155 _ A3.out).mono ?_); rintro e w' ⟨rfl, ⟨nd, rfl⟩⟩; refine ⟨_, rfl, ?_⟩; (try (rw [drewN_self w6]; generalize hq_ : World.drewN w6 _ = w6; have n0_ : Aside0 (w6.heap[gb153]? = some (.cells #[.int .i64 0, .int .i64 0, .int .i64 0, .int .i64 0, .slice none 0 0, .slice none 0 0] 27 (0, 0))) := ⟨by rw [← hq_]; exact (by (with_reducible repeat (first | refine blk_drewN ?_ _ | refine blk_drew ?_ | refine blk_alloc ?_ _)); exact BK153.out)⟩; have n1_ : Aside0 (Below w.heap.size w w6) := ⟨by rw [← hq_]; exact (by repeat (first | (with_reducible first | exact HB.out | apply below_alloc | apply pw_below_drewN | apply below_drew1 | refine below_set ?_ GE153.out) | exact HB.out))⟩; clear BK153 HB hq_; have BK153 := n0_; have HB := n1_; clear n0_ n1_))) | ((with_reducible refine gate_dst (N := 4) rfl ?_); (try (refine gate_guard (by rfl) ?_; dsimp only)); refine box_event ?hg (N := 4) ?hd (cs := #[.int .i64 0, .int .i64 0, .int .i64 0, .int .i64 0, .slice none 0 0, .slice none 0 0]) (t := 27) ?hr ?_; (case hd => rfl); (case hg => rfl); (case hr => first | (go_simp; done) | (go_simp; rfl) | (go_simp; simp only [IntKind.wrap_u32, Int.emod_add_emod, Int.add_emod_emod])); intro gb156 hg w7 hbox hb; have n0_ := Aside0.mk (blk_below (g := gb153) (o := .cells #[.int .i64 0, .int .i64 0, .int .i64 0, .int .i64 0, .slice none 0 0, .slice none 0 0] 27 (0, 0)) (by (with_reducible repeat (first | refine blk_drewN ?_ _ | refine blk_drew ?_ | refine blk_alloc ?_ _)); exact BK153.out) hb); have n1_ := Aside0.mk (below_step (by repeat (first | (with_reducible first | exact HB.out | apply below_alloc | apply pw_below_drewN | apply below_drew1 | refine below_set ?_ GE153.out) | exact HB.out)) hb); have n2_ := Aside0.mk (hbox); have n3_ := Aside0.mk ((by rw [hg]; exact (below_size (by repeat (first | (with_reducible first | exact HB.out | apply below_alloc | apply pw_below_drewN | apply below_drew1 | refine below_set ?_ GE153.out) | exact HB.out))) : w.heap.size ≤ gb156)); have n4_ := Aside0.mk ((by rw [hg]; exact (below_size (by repeat (first | (with_reducible first | exact HB.out | apply below_alloc | apply pw_below_drewN | apply below_drew1 | refine below_set ?_ GE153.out) | exact HB.out))) : w.heap.size ≤ gb156)); have n5_ := Aside0.mk ((by rw [hg]; exact Nat.ne_of_lt (blk_lt (g := gb153) (o := .cells #[.int .i64 0, .int .i64 0, .int .i64 0, .int .i64 0, .slice none 0 0, .slice none 0 0] 27 (0, 0)) (by (with_reducible repeat (first | refine blk_drewN ?_ _ | refine blk_drew ?_ | refine blk_alloc ?_ _)); exact BK153.out)) : gb153 ≠ gb156)); have n6_ := Aside0.mk ((by rw [hg]; exact Nat.ne_of_gt (blk_lt (g := gb153) (o := .cells #[.int .i64 0, .int .i64 0, .int .i64 0, .int .i64 0, .slice none 0 0, .slice none 0 0] 27 (0, 0)) (by (with_reducible repeat (first | refine blk_drewN ?_ _ | refine blk_drew ?_ | refine blk_alloc ?_ _)); exact BK153.out)) : gb156 ≠ gb153)); clear BK153; clear HB; have BK153 := n0_; have HB := n1_; have BK156 := n2_; have GW156 := n3_; have GE156 := n4_; have NB153_156 := n5_; have NB156_153 := n6_; clear n0_ n1_ n2_ n3_ n4_ n5_ n6_; clear hb hbox hg; have hnb8 := NB156_153.out; have hnc8 := NB153_156.out; have hcz9_0 : w7.cell? ⟨gb156, 0, none⟩ = some (.int .i64 0) := (blk_cell BK156.out 0).trans rfl; have hcz9_1 : w7.cell? ⟨gb156, 1, none⟩ = some (.int .i64 0) := (blk_cell BK156.out 1).trans rfl; have hcz9_2 : w7.cell? ⟨gb156, 2, none⟩ = some (.int .i64 0) := (blk_cell BK156.out 2).trans rfl; have hcz9_3 : w7.cell? ⟨gb156, 3, none⟩ = some (.int .i64 0) := (blk_cell BK156.out 3).trans rfl; have hcz9_4 : w7.cell? ⟨gb156, 4, none⟩ = some (.slice none 0 0) := (blk_cell BK156.out 4).trans rfl; have hcz9_5 : w7.cell? ⟨gb156, 5, none⟩ = some (.slice none 0 0) := (blk_cell BK156.out 5).trans rfl; have hfz9_0 := blk_frozen BK156.out 0; have hfz9_1 := blk_frozen BK156.out 1; have hfz9_2 := blk_frozen BK156.out 2; have hfz9_3 := blk_frozen BK156.out 3; have hfz9_4 := blk_frozen BK156.out 4; have hfz9_5 := blk_frozen BK156.out 5) | ((with_reducible refine gate_callee (f := 93) rfl ?_); refine goesL_ (some 16) rfl rfl Try.func93 (by kernel_rfl) rfl #[.int .i64 t155] rfl (by (try simp only [List.map_toArray, List.map_cons, List.map_nil]); first | done | rfl | (simp only [List.length_drop, List.length_take]; rfl)) ?_; (with_reducible refine (console_asks.calls k t155 t157 _ A4.out).mono ?_); rintro e w' ⟨rfl, ⟨nd, rfl⟩⟩; refine ⟨_, rfl, ?_⟩))
    (try simp only [Act.put, List.setIfInBounds_toArray, List.set_cons_zero, List.set_cons_succ])
    go_cut [27] (fun v27 wc => ∃ (kq : Nat) (x27_4 : Bool), v27 = .bool x27_4 ∧ Aside0 (console_told.j0 kq l0 t157 x27_4 t155 0 0 0 = some (r1, r2, r3, r4, r5, r6, r7)) ∧ Aside0 (kq ≤ k) ∧ Aside0 (wc.heap[gb153]? = some (.cells #[.int .i64 0, .int .i64 0, .int .i64 0, .int .i64 0, (.slice none 0 0), (.slice none 0 0)] 27 (0, 0))) ∧ Aside0 (wc.heap[gb156]? = some (.cells #[.int .i64 t155, .int .i64 0, .int .i64 0, .int .i64 0, (.slice none 0 0), (.slice none 0 0)] 27 (0, 0))) ∧ Aside0 (Below w.heap.size w wc))
    case first =>
      have H := HC5.out
      clear HC5
      by_cases c10 : t155 = 0
      · rw [if_pos c10] at H
        have c10b0 : (t155 == 0) = true := beq_iff_eq.mpr c10
        have c10b1 : (t155 != 0) = false := bne_eq_false_iff_eq.mpr c10
        clear c10
        (first | rw [c10b0] | (simp only [i64_w, i32_w]; rw [c10b0]) | skip)
        have H' := Aside0.mk H
        clear H
        have hnb11 := NB156_153.out
        have hnc11 := NB153_156.out
        have hcz12_0 : w7.cell? ⟨gb156, 0, none⟩ = some (.int .i64 0) := (blk_cell BK156.out 0).trans rfl
        have hcz12_1 : w7.cell? ⟨gb156, 1, none⟩ = some (.int .i64 0) := (blk_cell BK156.out 1).trans rfl
        have hcz12_2 : w7.cell? ⟨gb156, 2, none⟩ = some (.int .i64 0) := (blk_cell BK156.out 2).trans rfl
        have hcz12_3 : w7.cell? ⟨gb156, 3, none⟩ = some (.int .i64 0) := (blk_cell BK156.out 3).trans rfl
        have hcz12_4 : w7.cell? ⟨gb156, 4, none⟩ = some (.slice none 0 0) := (blk_cell BK156.out 4).trans rfl
        have hcz12_5 : w7.cell? ⟨gb156, 5, none⟩ = some (.slice none 0 0) := (blk_cell BK156.out 5).trans rfl
        have hfz12_0 := blk_frozen BK156.out 0
        have hfz12_1 := blk_frozen BK156.out 1
        have hfz12_2 := blk_frozen BK156.out 2
        have hfz12_3 := blk_frozen BK156.out 3
        have hfz12_4 := blk_frozen BK156.out 4
        have hfz12_5 := blk_frozen BK156.out 5
        go_wp2
        go_meet
        case rel => exact ⟨_, (true), (by first | rfl | (simp; done) | (simp [*]; done)), H', ⟨by first | omega | exact Nat.le_refl _⟩, ⟨by (with_reducible repeat (first | refine blk_drewN ?_ _ | refine blk_drew ?_ | refine blk_alloc ?_ _)); refine blk_far ?_ NB153_156.out _; (with_reducible repeat (first | refine blk_drewN ?_ _ | refine blk_drew ?_ | refine blk_alloc ?_ _)); refine blk_far ?_ NB153_156.out _; (with_reducible repeat (first | refine blk_drewN ?_ _ | refine blk_drew ?_ | refine blk_alloc ?_ _)); refine blk_far ?_ NB153_156.out _; (with_reducible repeat (first | refine blk_drewN ?_ _ | refine blk_drew ?_ | refine blk_alloc ?_ _)); refine blk_far ?_ NB153_156.out _; (with_reducible repeat (first | refine blk_drewN ?_ _ | refine blk_drew ?_ | refine blk_alloc ?_ _)); refine blk_far ?_ NB153_156.out _; (with_reducible repeat (first | refine blk_drewN ?_ _ | refine blk_drew ?_ | refine blk_alloc ?_ _)); refine blk_far ?_ NB153_156.out _; (with_reducible repeat (first | refine blk_drewN ?_ _ | refine blk_drew ?_ | refine blk_alloc ?_ _)); exact BK153.out⟩, ⟨by (with_reducible repeat (first | refine blk_drewN ?_ _ | refine blk_drew ?_ | refine blk_alloc ?_ _)); refine blk_put (cs := #[.int .i64 t155, .int .i64 0, .int .i64 0, .int .i64 0, .slice none 0 0, .slice none 0 0]) ?_ 5 _ rfl; (with_reducible repeat (first | refine blk_drewN ?_ _ | refine blk_drew ?_ | refine blk_alloc ?_ _)); refine blk_put (cs := #[.int .i64 t155, .int .i64 0, .int .i64 0, .int .i64 0, .slice none 0 0, .slice none 0 0]) ?_ 4 _ rfl; (with_reducible repeat (first | refine blk_drewN ?_ _ | refine blk_drew ?_ | refine blk_alloc ?_ _)); refine blk_put (cs := #[.int .i64 t155, .int .i64 0, .int .i64 0, .int .i64 0, .slice none 0 0, .slice none 0 0]) ?_ 3 _ rfl; (with_reducible repeat (first | refine blk_drewN ?_ _ | refine blk_drew ?_ | refine blk_alloc ?_ _)); refine blk_put (cs := #[.int .i64 t155, .int .i64 0, .int .i64 0, .int .i64 0, .slice none 0 0, .slice none 0 0]) ?_ 2 _ rfl; (with_reducible repeat (first | refine blk_drewN ?_ _ | refine blk_drew ?_ | refine blk_alloc ?_ _)); refine blk_put (cs := #[.int .i64 t155, .int .i64 0, .int .i64 0, .int .i64 0, .slice none 0 0, .slice none 0 0]) ?_ 1 _ rfl; (with_reducible repeat (first | refine blk_drewN ?_ _ | refine blk_drew ?_ | refine blk_alloc ?_ _)); refine blk_put (cs := #[.int .i64 0, .int .i64 0, .int .i64 0, .int .i64 0, .slice none 0 0, .slice none 0 0]) ?_ 0 _ rfl; (with_reducible repeat (first | refine blk_drewN ?_ _ | refine blk_drew ?_ | refine blk_alloc ?_ _)); exact BK156.out⟩, ⟨by repeat (first | (with_reducible first | exact HB.out | apply below_alloc | apply pw_below_drewN | apply below_drew1 | refine below_set ?_ GE153.out | refine below_set ?_ GE156.out) | exact HB.out)⟩⟩
      · rw [if_neg c10] at H
        have c10b0 : (t155 == 0) = false := beq_eq_false_iff_ne.mpr c10
        have c10b1 : (t155 != 0) = true := bne_iff_ne.mpr c10
        (first | rw [c10b0] | (simp only [i64_w, i32_w]; rw [c10b0]) | skip)
        have H' := Aside0.mk H
        clear H
        have hnb13 := NB156_153.out
        have hnc13 := NB153_156.out
        have hcz14_0 : w7.cell? ⟨gb156, 0, none⟩ = some (.int .i64 0) := (blk_cell BK156.out 0).trans rfl
        have hcz14_1 : w7.cell? ⟨gb156, 1, none⟩ = some (.int .i64 0) := (blk_cell BK156.out 1).trans rfl
        have hcz14_2 : w7.cell? ⟨gb156, 2, none⟩ = some (.int .i64 0) := (blk_cell BK156.out 2).trans rfl
        have hcz14_3 : w7.cell? ⟨gb156, 3, none⟩ = some (.int .i64 0) := (blk_cell BK156.out 3).trans rfl
        have hcz14_4 : w7.cell? ⟨gb156, 4, none⟩ = some (.slice none 0 0) := (blk_cell BK156.out 4).trans rfl
        have hcz14_5 : w7.cell? ⟨gb156, 5, none⟩ = some (.slice none 0 0) := (blk_cell BK156.out 5).trans rfl
        have hfz14_0 := blk_frozen BK156.out 0
        have hfz14_1 := blk_frozen BK156.out 1
        have hfz14_2 := blk_frozen BK156.out 2
        have hfz14_3 := blk_frozen BK156.out 3
        have hfz14_4 := blk_frozen BK156.out 4
        have hfz14_5 := blk_frozen BK156.out 5
        go_wp2
        go_meet
        case rel => exact ⟨_, (((l0.length : Int) != (wrap64 ((t157.size : Int) + 1)))), (by first | rfl | (simp; done) | (simp [*]; done)), H', ⟨by first | omega | exact Nat.le_refl _⟩, ⟨by (with_reducible repeat (first | refine blk_drewN ?_ _ | refine blk_drew ?_ | refine blk_alloc ?_ _)); refine blk_far ?_ NB153_156.out _; (with_reducible repeat (first | refine blk_drewN ?_ _ | refine blk_drew ?_ | refine blk_alloc ?_ _)); refine blk_far ?_ NB153_156.out _; (with_reducible repeat (first | refine blk_drewN ?_ _ | refine blk_drew ?_ | refine blk_alloc ?_ _)); refine blk_far ?_ NB153_156.out _; (with_reducible repeat (first | refine blk_drewN ?_ _ | refine blk_drew ?_ | refine blk_alloc ?_ _)); refine blk_far ?_ NB153_156.out _; (with_reducible repeat (first | refine blk_drewN ?_ _ | refine blk_drew ?_ | refine blk_alloc ?_ _)); refine blk_far ?_ NB153_156.out _; (with_reducible repeat (first | refine blk_drewN ?_ _ | refine blk_drew ?_ | refine blk_alloc ?_ _)); refine blk_far ?_ NB153_156.out _; (with_reducible repeat (first | refine blk_drewN ?_ _ | refine blk_drew ?_ | refine blk_alloc ?_ _)); exact BK153.out⟩, ⟨by (with_reducible repeat (first | refine blk_drewN ?_ _ | refine blk_drew ?_ | refine blk_alloc ?_ _)); refine blk_put (cs := #[.int .i64 t155, .int .i64 0, .int .i64 0, .int .i64 0, .slice none 0 0, .slice none 0 0]) ?_ 5 _ rfl; (with_reducible repeat (first | refine blk_drewN ?_ _ | refine blk_drew ?_ | refine blk_alloc ?_ _)); refine blk_put (cs := #[.int .i64 t155, .int .i64 0, .int .i64 0, .int .i64 0, .slice none 0 0, .slice none 0 0]) ?_ 4 _ rfl; (with_reducible repeat (first | refine blk_drewN ?_ _ | refine blk_drew ?_ | refine blk_alloc ?_ _)); refine blk_put (cs := #[.int .i64 t155, .int .i64 0, .int .i64 0, .int .i64 0, .slice none 0 0, .slice none 0 0]) ?_ 3 _ rfl; (with_reducible repeat (first | refine blk_drewN ?_ _ | refine blk_drew ?_ | refine blk_alloc ?_ _)); refine blk_put (cs := #[.int .i64 t155, .int .i64 0, .int .i64 0, .int .i64 0, .slice none 0 0, .slice none 0 0]) ?_ 2 _ rfl; (with_reducible repeat (first | refine blk_drewN ?_ _ | refine blk_drew ?_ | refine blk_alloc ?_ _)); refine blk_put (cs := #[.int .i64 t155, .int .i64 0, .int .i64 0, .int .i64 0, .slice none 0 0, .slice none 0 0]) ?_ 1 _ rfl; (with_reducible repeat (first | refine blk_drewN ?_ _ | refine blk_drew ?_ | refine blk_alloc ?_ _)); refine blk_put (cs := #[.int .i64 0, .int .i64 0, .int .i64 0, .int .i64 0, .slice none 0 0, .slice none 0 0]) ?_ 0 _ rfl; (with_reducible repeat (first | refine blk_drewN ?_ _ | refine blk_drew ?_ | refine blk_alloc ?_ _)); exact BK156.out⟩, ⟨by repeat (first | (with_reducible first | exact HB.out | apply below_alloc | apply pw_below_drewN | apply below_drew1 | refine below_set ?_ GE153.out | refine below_set ?_ GE156.out) | exact HB.out)⟩⟩
    case rest =>
      clear HC5
      try clear c1
      try clear p1
      try clear q1
      try clear hx1
      try clear qi1
      try clear c2
      try clear c2b0
      try clear c2b1
      try clear p2
      try clear p6
      try clear c8
      try clear c9
      try clear c10
      try clear c10b0
      try clear c10b1
      try clear c11
      try clear c13
      try clear hcz12_0
      try clear hcz12_1
      try clear hcz12_2
      try clear hcz12_3
      try clear hcz12_4
      try clear hcz12_5
      try clear hcz14_0
      try clear hcz14_1
      try clear hcz14_2
      try clear hcz14_3
      try clear hcz14_4
      try clear hcz14_5
      try clear hcz9_0
      try clear hcz9_1
      try clear hcz9_2
      try clear hcz9_3
      try clear hcz9_4
      try clear hcz9_5
      try clear hfz12_0
      try clear hfz12_1
      try clear hfz12_2
      try clear hfz12_3
      try clear hfz12_4
      try clear hfz12_5
      try clear hfz14_0
      try clear hfz14_1
      try clear hfz14_2
      try clear hfz14_3
      try clear hfz14_4
      try clear hfz14_5
      try clear hfz9_0
      try clear hfz9_1
      try clear hfz9_2
      try clear hfz9_3
      try clear hfz9_4
      try clear hfz9_5
      try clear hx154_0
      try clear p154
      try clear q154
      obtain ⟨kq, x27_4, rfl, HA, HJ4, BK153, BK156, HB⟩ := hcut
      cases kq with
      | zero => exact absurd HA.out (by simp [console_told.j0])
      | succ kj4 =>
        have H := HA.out
        clear HA
        simp only [console_told.j0] at H
        by_cases c15 : x27_4 = true
        · subst c15
          have H1 : (some (0, 0, 0, 0, ([] : List Int), ([] : List Int), false)) = some (r1, r2, r3, r4, r5, r6, r7) := by rw [if_pos rfl] at H; exact H
          clear H
          have H := H1
          clear H1
          simp only [Option.some.injEq, Prod.mk.injEq] at H
          obtain ⟨rfl, rfl, rfl, rfl, rfl, rfl, rfl⟩ := H
          have hnb16 := NB153_156.out
          have hnc16 := NB156_153.out
          have hcz17_0 : wc.cell? ⟨gb153, 0, none⟩ = some (.int .i64 0) := (blk_cell BK153.out 0).trans rfl
          have hcz17_1 : wc.cell? ⟨gb153, 1, none⟩ = some (.int .i64 0) := (blk_cell BK153.out 1).trans rfl
          have hcz17_2 : wc.cell? ⟨gb153, 2, none⟩ = some (.int .i64 0) := (blk_cell BK153.out 2).trans rfl
          have hcz17_3 : wc.cell? ⟨gb153, 3, none⟩ = some (.int .i64 0) := (blk_cell BK153.out 3).trans rfl
          have hcz17_4 : wc.cell? ⟨gb153, 4, none⟩ = some (.slice none 0 0) := (blk_cell BK153.out 4).trans rfl
          have hcz17_5 : wc.cell? ⟨gb153, 5, none⟩ = some (.slice none 0 0) := (blk_cell BK153.out 5).trans rfl
          have hfz17_0 := blk_frozen BK153.out 0
          have hfz17_1 := blk_frozen BK153.out 1
          have hfz17_2 := blk_frozen BK153.out 2
          have hfz17_3 := blk_frozen BK153.out 3
          have hfz17_4 := blk_frozen BK153.out 4
          have hfz17_5 := blk_frozen BK153.out 5
          go_wp2
          refine bodyPost_ret (results_ct rfl _ _ gb153 27 #[.int .i64 0, .int .i64 0, .int .i64 0, .int .i64 0, .slice none 0 0, .slice none 0 0] (0, 0) _ rfl (by (with_reducible repeat (first | refine blk_drewN ?_ _ | refine blk_drew ?_ | refine blk_alloc ?_ _)); refine blk_put (cs := #[.int .i64 0, .int .i64 0, .int .i64 0, .int .i64 0, .slice none 0 0, .slice none 0 0]) ?_ 5 _ rfl; (with_reducible repeat (first | refine blk_drewN ?_ _ | refine blk_drew ?_ | refine blk_alloc ?_ _)); refine blk_put (cs := #[.int .i64 0, .int .i64 0, .int .i64 0, .int .i64 0, .slice none 0 0, .slice none 0 0]) ?_ 4 _ rfl; (with_reducible repeat (first | refine blk_drewN ?_ _ | refine blk_drew ?_ | refine blk_alloc ?_ _)); refine blk_put (cs := #[.int .i64 0, .int .i64 0, .int .i64 0, .int .i64 0, .slice none 0 0, .slice none 0 0]) ?_ 3 _ rfl; (with_reducible repeat (first | refine blk_drewN ?_ _ | refine blk_drew ?_ | refine blk_alloc ?_ _)); refine blk_put (cs := #[.int .i64 0, .int .i64 0, .int .i64 0, .int .i64 0, .slice none 0 0, .slice none 0 0]) ?_ 2 _ rfl; (with_reducible repeat (first | refine blk_drewN ?_ _ | refine blk_drew ?_ | refine blk_alloc ?_ _)); refine blk_put (cs := #[.int .i64 0, .int .i64 0, .int .i64 0, .int .i64 0, .slice none 0 0, .slice none 0 0]) ?_ 1 _ rfl; (with_reducible repeat (first | refine blk_drewN ?_ _ | refine blk_drew ?_ | refine blk_alloc ?_ _)); refine blk_put (cs := #[.int .i64 0, .int .i64 0, .int .i64 0, .int .i64 0, .slice none 0 0, .slice none 0 0]) ?_ 0 _ rfl; (with_reducible repeat (first | refine blk_drewN ?_ _ | refine blk_drew ?_ | refine blk_alloc ?_ _)); exact BK153.out) Try.underlying27 rfl (by kernel_rfl)) rfl ?_
          exact ⟨_, _, by first | rfl | (simp [errW_none, errW_some] <;> rfl) | (simp [*, errW_none, errW_some] <;> rfl), by first | exact Kd.R_nil _ _ _ _ _ | exact Kd.N_nil _ _ _ _ _ | exact Kd.V_nil _ _ _ _ _ | exact Kd.Q_nil _ _ _ _ _ | exact Kd.S_nil _ _ _ _ _, by first | exact Kd.R_nil _ _ _ _ _ | exact Kd.N_nil _ _ _ _ _ | exact Kd.V_nil _ _ _ _ _ | exact Kd.Q_nil _ _ _ _ _ | exact Kd.S_nil _ _ _ _ _, by repeat (first | (with_reducible first | exact HB.out | apply below_alloc | apply pw_below_drewN | apply below_drew1 | refine below_set ?_ GE153.out | refine below_set ?_ GE156.out) | exact HB.out)⟩
        · replace c15 := Bool.eq_false_iff.mpr c15
          subst c15
          have H1 : (console_told.l0 kj4 l0 t157 (t157.size : Int) 0 t155 0 0 0 ([] : List Int) ([] : List Int)) = some (r1, r2, r3, r4, r5, r6, r7) := by rw [if_neg (show ¬ (false = true) by decide)] at H; exact H
          clear H
          have H := H1
          clear H1
          have H' := Aside0.mk H
          clear H
          go_wp2
          go_loopg [31] kj4 (fun kq v31 w' => ∃ (x31_2 : Int) (x154000_2 : Int) (x154001_2 : Int) (x154002_2 : Int) (x154003_2 : Int) (x157001_2 : Int) (x157002_2 : Int) (x157003_2 : Int) (x157004_2 : List Int) (x157005_2 : List Int) (u157004 : Value) (u157005 : Value), v31 = .int .i64 x31_2 ∧ Aside0 (console_told.l0 kq l0 t157 (t157.size : Int) x31_2 t155 x157001_2 x157002_2 x157003_2 x157004_2 x157005_2 = some (r1, r2, r3, r4, r5, r6, r7)) ∧ Aside0 (kq ≤ kj4) ∧ Aside0 (Kd.R (Kd.int .u8) 5 w' w.heap.size (fun k_ => some k_ ≠ (u157005 : Value).ownBlock) u157004 x157004_2) ∧ Aside0 (Kd.R (Kd.int .u8) 5 w' w.heap.size (fun k_ => some k_ ≠ (u157004 : Value).ownBlock) u157005 x157005_2) ∧ Aside0 (w'.heap[gb153]? = some (.cells #[.int .i64 x154000_2, .int .i64 x154001_2, .int .i64 x154002_2, .int .i64 x154003_2, (.slice none 0 0), (.slice none 0 0)] 27 (0, 0))) ∧ Aside0 (w'.heap[gb156]? = some (.cells #[.int .i64 t155, .int .i64 x157001_2, .int .i64 x157002_2, .int .i64 x157003_2, u157004, u157005] 27 (0, 0))) ∧ Aside0 (Below w.heap.size w w'))
          case atStart => exact ⟨(0), (0), (0), (0), (0), (0), (0), (0), (([] : List Int)), (([] : List Int)), (.slice none 0 0), (.slice none 0 0), (by first | rfl | (simp; done) | (simp [*]; done)), H', ⟨Nat.le_refl _⟩, ⟨by first | exact Kd.R_nil _ _ _ _ _ | exact Kd.N_nil _ _ _ _ _ | exact Kd.V_nil _ _ _ _ _ | exact Kd.Q_nil _ _ _ _ _ | exact Kd.S_nil _ _ _ _ _⟩, ⟨by first | exact Kd.R_nil _ _ _ _ _ | exact Kd.N_nil _ _ _ _ _ | exact Kd.V_nil _ _ _ _ _ | exact Kd.Q_nil _ _ _ _ _ | exact Kd.S_nil _ _ _ _ _⟩, ⟨by (with_reducible repeat (first | refine blk_drewN ?_ _ | refine blk_drew ?_ | refine blk_alloc ?_ _)); exact BK153.out⟩, ⟨by (with_reducible repeat (first | refine blk_drewN ?_ _ | refine blk_drew ?_ | refine blk_alloc ?_ _)); exact BK156.out⟩, ⟨by repeat (first | (with_reducible first | exact HB.out | apply below_alloc | apply pw_below_drewN | apply below_drew1 | refine below_set ?_ GE153.out | refine below_set ?_ GE156.out) | exact HB.out)⟩⟩
          case round =>
            clear H'
            try clear c1
            try clear p1
            try clear q1
            try clear hx1
            try clear qi1
            try clear c2
            try clear c2b0
            try clear c2b1
            try clear p2
            try clear p6
            try clear c8
            try clear c9
            try clear c10
            try clear c10b0
            try clear c10b1
            try clear c11
            try clear c13
            try clear c15
            try clear p15
            try clear q15
            try clear hx15
            try clear qi15
            try clear c16
            try clear hcz12_0
            try clear hcz12_1
            try clear hcz12_2
            try clear hcz12_3
            try clear hcz12_4
            try clear hcz12_5
            try clear hcz14_0
            try clear hcz14_1
            try clear hcz14_2
            try clear hcz14_3
            try clear hcz14_4
            try clear hcz14_5
            try clear hcz17_0
            try clear hcz17_1
            try clear hcz17_2
            try clear hcz17_3
            try clear hcz17_4
            try clear hcz17_5
            try clear hcz9_0
            try clear hcz9_1
            try clear hcz9_2
            try clear hcz9_3
            try clear hcz9_4
            try clear hcz9_5
            try clear hfz12_0
            try clear hfz12_1
            try clear hfz12_2
            try clear hfz12_3
            try clear hfz12_4
            try clear hfz12_5
            try clear hfz14_0
            try clear hfz14_1
            try clear hfz14_2
            try clear hfz14_3
            try clear hfz14_4
            try clear hfz14_5
            try clear hfz17_0
            try clear hfz17_1
            try clear hfz17_2
            try clear hfz17_3
            try clear hfz17_4
            try clear hfz17_5
            try clear hfz9_0
            try clear hfz9_1
            try clear hfz9_2
            try clear hfz9_3
            try clear hfz9_4
            try clear hfz9_5
            try clear hx154_0
            try clear p1
            try clear p154
            try clear p2
            try clear p6
            try clear q1
            try clear q154
            obtain ⟨x31_2, x154000_2, x154001_2, x154002_2, x154003_2, x157001_2, x157002_2, x157003_2, x157004_2, x157005_2, u157004, u157005, rfl, HA, HK2, HO_157004, HO_157005, BK153, BK156, HB⟩ := hrel
            cases gk with
            | zero => exact absurd HA.out (by simp [console_told.l0])
            | succ k2 =>
              have H := HA.out
              clear HA
              simp only [console_told.l0] at H
              by_cases c18 : x31_2 < (t157.size : Int)
              · rw [if_pos c18] at H
                have c18b0 : decide (x31_2 < (t157.size : Int)) = true := decide_eq_true c18
                clear c18
                obtain ⟨ji19, hji19⟩ : ∃ j_ : Int, (wrap64 (x31_2 + 1)) = j_ := ⟨_, rfl⟩
                replace H : (if 0 ≤ (ji19) then (if (ji19) < (l0.length : Int) then (if 0 ≤ x31_2 then (if x31_2 < (t157.size : Int) then (if (bt t157 x31_2) = 110 then ((console_Number.f (rdOf ByteArray.empty l0 (ji19))).bind fun bt159 => (if bt159.2 = true then (console_told.l0 k2 l0 t157 (t157.size : Int) ji19 t155 bt159.1 x157002_2 x157003_2 x157004_2 x157005_2) else (some (0, 0, 0, 0, ([] : List Int), ([] : List Int), false)))) else (if (bt t157 x31_2) = 108 then ((console_Number.f (rdOf ByteArray.empty l0 (ji19))).bind fun bt161 => (if bt161.2 = true then (console_told.l0 k2 l0 t157 (t157.size : Int) ji19 t155 x157001_2 bt161.1 x157003_2 x157004_2 x157005_2) else (some (0, 0, 0, 0, ([] : List Int), ([] : List Int), false)))) else (if (bt t157 x31_2) = 99 then ((console_Number.f (rdOf ByteArray.empty l0 (ji19))).bind fun bt163 => (if bt163.2 = true then (console_told.l0 k2 l0 t157 (t157.size : Int) ji19 t155 x157001_2 x157002_2 bt163.1 x157004_2 x157005_2) else (some (0, 0, 0, 0, ([] : List Int), ([] : List Int), false)))) else (if (bt t157 x31_2) = 112 then ((console_bytes.f (rdOf ByteArray.empty l0 (ji19))).bind fun bt165 => (if bt165.2 = true then (console_told.l0 k2 l0 t157 (t157.size : Int) ji19 t155 x157001_2 x157002_2 x157003_2 bt165.1 x157005_2) else (some (0, 0, 0, 0, ([] : List Int), ([] : List Int), false)))) else (if (bt t157 x31_2) = 100 then ((console_bytes.f (rdOf ByteArray.empty l0 (ji19))).bind fun bt169 => (if bt169.2 = true then (console_told.l0 k2 l0 t157 (t157.size : Int) ji19 t155 x157001_2 x157002_2 x157003_2 x157004_2 bt169.1) else (some (0, 0, 0, 0, ([] : List Int), ([] : List Int), false)))) else (some (0, 0, 0, 0, ([] : List Int), ([] : List Int), false))))))) else (none)) else (none)) else (none)) else (none)) = some (r1, r2, r3, r4, r5, r6, r7) := by first | (rw [hji19] at H; exact H) | (simp only [hji19] at H ⊢; exact H)
                have hji19w : (IntKind.i64.wrap (x31_2 + 1)) = ji19 := (i64_w _).trans hji19
                by_cases c20 : 0 ≤ (ji19)
                · rw [if_pos c20] at H
                  have c20b0 : decide (0 ≤ (ji19)) = true := decide_eq_true c20
                  clear c20
                  by_cases c21 : (ji19) < (l0.length : Int)
                  · rw [if_pos c21] at H
                    have c21b0 : decide ((ji19) < (l0.length : Int)) = true := decide_eq_true c21
                    clear c21
                    by_cases c22 : 0 ≤ x31_2
                    · rw [if_pos c22] at H
                      have c22b0 : decide (0 ≤ x31_2) = true := decide_eq_true c22
                      clear c22
                      by_cases c23 : x31_2 < (t157.size : Int)
                      · rw [if_pos c23] at H
                        have c23b0 : decide (x31_2 < (t157.size : Int)) = true := decide_eq_true c23
                        clear c23
                        by_cases c25 : (bt t157 x31_2) = 110
                        · rw [if_pos c25] at H
                          have c25b0 : ((bt t157 x31_2) == 110) = true := beq_iff_eq.mpr c25
                          have c25b1 : ((bt t157 x31_2) != 110) = false := bne_eq_false_iff_eq.mpr c25
                          clear c25
                          replace H := Option.bind_eq_some_iff.mp H
                          obtain ⟨⟨t159, t160⟩, A260, H⟩ := H
                          replace H : (if t160 = true then (console_told.l0 k2 l0 t157 (t157.size : Int) ji19 t155 t159 x157002_2 x157003_2 x157004_2 x157005_2) else (some (0, 0, 0, 0, ([] : List Int), ([] : List Int), false))) = some (r1, r2, r3, r4, r5, r6, r7) := H
                          have A26 := Aside0.mk A260
                          clear A260
                          by_cases c27 : t160 = true
                          · subst c27
                            have H1 : (console_told.l0 k2 l0 t157 (t157.size : Int) ji19 t155 t159 x157002_2 x157003_2 x157004_2 x157005_2) = some (r1, r2, r3, r4, r5, r6, r7) := by rw [if_pos rfl] at H; exact H
                            clear H
                            have H := H1
                            clear H1
                            have H' := Aside0.mk H
                            clear H
                            have p158 : 0 ≤ ((ji19) : Int) := of_decide_eq_true (by first | (with_reducible assumption) | assumption)
                            have q158 : (ji19) < (l0.length : Int) := of_decide_eq_true (by first | (with_reducible assumption) | assumption)
                            obtain ⟨ad158, e158, hx158_0⟩ := Kd.at_string HR0.out (ji19) p158 q158
                            obtain rfl : ad154 = ad158 := (by injection e158)
                            replace hx158_0 := (HB.out.cell (World.block_lt_of_cell? w _ hx158_0)).trans hx158_0
                            replace p158 := eq_true p158
                            replace q158 := eq_true q158
                            have p24 : 0 ≤ (x31_2 : Int) := of_decide_eq_true (by first | (with_reducible assumption) | assumption)
                            have q24 : x31_2 < (t157.size : Int) := of_decide_eq_true (by first | (with_reducible assumption) | assumption)
                            have hx24 := bt_at t157 x31_2
                            replace p24 := eq_true p24
                            replace q24 := eq_true q24
                            go_wp2_with (first | ((with_reducible refine gate_callee (f := 45) rfl ?_); refine goesL_ (some 46) rfl rfl Try.func45 (by kernel_rfl) rfl #[.string (rdOf ByteArray.empty l0 (ji19))] rfl (by (try simp only [List.map_toArray, List.map_cons, List.map_nil]); first | done | (simp only [hji19]; rfl) | rfl | (simp only [List.length_drop, List.length_take]; rfl)) ?_; (with_reducible refine (console_Number.calls (rdOf ByteArray.empty l0 (ji19)) t159 true _ A26.out).mono ?_); rintro e w28 ⟨rfl, hb⟩; refine ⟨_, rfl, ?_⟩; have n0_ := Aside0.mk (Kd.R_below (by (with_reducible repeat (first | apply Kd.R_alloc | apply Kd.R_drewN | apply Kd.R_drew)); exact HO_157004.out) hb); have n1_ := Aside0.mk (Kd.R_below (by (with_reducible repeat (first | apply Kd.R_alloc | apply Kd.R_drewN | apply Kd.R_drew)); exact HO_157005.out) hb); have n2_ := Aside0.mk (blk_below (g := gb153) (o := .cells #[.int .i64 x154000_2, .int .i64 x154001_2, .int .i64 x154002_2, .int .i64 x154003_2, .slice none 0 0, .slice none 0 0] 27 (0, 0)) (by (with_reducible repeat (first | refine blk_drewN ?_ _ | refine blk_drew ?_ | refine blk_alloc ?_ _)); exact BK153.out) hb); have n3_ := Aside0.mk (blk_below (g := gb156) (o := .cells #[.int .i64 t155, .int .i64 x157001_2, .int .i64 x157002_2, .int .i64 x157003_2, u157004, u157005] 27 (0, 0)) (by (with_reducible repeat (first | refine blk_drewN ?_ _ | refine blk_drew ?_ | refine blk_alloc ?_ _)); exact BK156.out) hb); have n4_ := Aside0.mk (below_step (by repeat (first | (with_reducible first | exact HB.out | apply below_alloc | apply pw_below_drewN | apply below_drew1 | refine below_set ?_ GE153.out | refine below_set ?_ GE156.out) | exact HB.out)) hb); clear HO_157004; clear HO_157005; clear BK153; clear BK156; clear HB; have HO_157004 := n0_; have HO_157005 := n1_; have BK153 := n2_; have BK156 := n3_; have HB := n4_; clear n0_ n1_ n2_ n3_ n4_; (try clear hb); (try clear hb2); (try clear hk); (try clear hi); have hnb29 := NB156_153.out; have hnc29 := NB153_156.out; have hcz30_0 : w28.cell? ⟨gb156, 0, none⟩ = some (.int .i64 t155) := (blk_cell BK156.out 0).trans rfl; have hcz30_1 : w28.cell? ⟨gb156, 1, none⟩ = some (.int .i64 x157001_2) := (blk_cell BK156.out 1).trans rfl; have hcz30_2 : w28.cell? ⟨gb156, 2, none⟩ = some (.int .i64 x157002_2) := (blk_cell BK156.out 2).trans rfl; have hcz30_3 : w28.cell? ⟨gb156, 3, none⟩ = some (.int .i64 x157003_2) := (blk_cell BK156.out 3).trans rfl; have hcz30_4 : w28.cell? ⟨gb156, 4, none⟩ = some (u157004) := (blk_cell BK156.out 4).trans rfl; have hcz30_5 : w28.cell? ⟨gb156, 5, none⟩ = some (u157005) := (blk_cell BK156.out 5).trans rfl; have hfz30_0 := blk_frozen BK156.out 0; have hfz30_1 := blk_frozen BK156.out 1; have hfz30_2 := blk_frozen BK156.out 2; have hfz30_3 := blk_frozen BK156.out 3; have hfz30_4 := blk_frozen BK156.out 4; have hfz30_5 := blk_frozen BK156.out 5))
                            go_roundg k2
                            case measure => have := HJ4.out; have := HK2.out; omega
                            case rel => exact ⟨(ji19), (x154000_2), (x154001_2), (x154002_2), (x154003_2), (t159), (x157002_2), (x157003_2), (x157004_2), (x157005_2), (u157004), (u157005), (by first | rfl | (simp; done) | (simp only [← hji19] <;> (first | rfl | simp)) | (simp [*]; done)), H', ⟨by have := HJ4.out; have := HK2.out; omega⟩, ⟨by (with_reducible repeat (first | apply Kd.R_alloc | apply Kd.R_drewN | apply Kd.R_drew)); exact Kd.R_mono (Kd.R_far (p := ⟨gb156, 1, none⟩) (Kd.R_types HO_157004.out BK156.out (by decide)) (fun _ hk => by first | exact hk.2 | trivial) (.int .i64 t159)) (fun _ hk => hk.1)⟩, ⟨by (with_reducible repeat (first | apply Kd.R_alloc | apply Kd.R_drewN | apply Kd.R_drew)); exact Kd.R_mono (Kd.R_far (p := ⟨gb156, 1, none⟩) (Kd.R_types HO_157005.out BK156.out (by decide)) (fun _ hk => by first | exact hk.2 | trivial) (.int .i64 t159)) (fun _ hk => hk.1)⟩, ⟨by (with_reducible repeat (first | refine blk_drewN ?_ _ | refine blk_drew ?_ | refine blk_alloc ?_ _)); refine blk_far ?_ NB153_156.out _; (with_reducible repeat (first | refine blk_drewN ?_ _ | refine blk_drew ?_ | refine blk_alloc ?_ _)); exact BK153.out⟩, ⟨by (with_reducible repeat (first | refine blk_drewN ?_ _ | refine blk_drew ?_ | refine blk_alloc ?_ _)); refine blk_put (cs := #[.int .i64 t155, .int .i64 x157001_2, .int .i64 x157002_2, .int .i64 x157003_2, u157004, u157005]) ?_ 1 _ rfl; (with_reducible repeat (first | refine blk_drewN ?_ _ | refine blk_drew ?_ | refine blk_alloc ?_ _)); exact BK156.out⟩, ⟨by repeat (first | (with_reducible first | exact HB.out | apply below_alloc | apply pw_below_drewN | apply below_drew1 | refine below_set ?_ GE153.out | refine below_set ?_ GE156.out) | exact HB.out)⟩⟩
                          · replace c27 := Bool.eq_false_iff.mpr c27
                            subst c27
                            have H1 : (some (0, 0, 0, 0, ([] : List Int), ([] : List Int), false)) = some (r1, r2, r3, r4, r5, r6, r7) := by rw [if_neg (show ¬ (false = true) by decide)] at H; exact H
                            clear H
                            have H := H1
                            clear H1
                            simp only [Option.some.injEq, Prod.mk.injEq] at H
                            obtain ⟨rfl, rfl, rfl, rfl, rfl, rfl, rfl⟩ := H
                            have p158 : 0 ≤ ((ji19) : Int) := of_decide_eq_true (by first | (with_reducible assumption) | assumption)
                            have q158 : (ji19) < (l0.length : Int) := of_decide_eq_true (by first | (with_reducible assumption) | assumption)
                            obtain ⟨ad158, e158, hx158_0⟩ := Kd.at_string HR0.out (ji19) p158 q158
                            obtain rfl : ad154 = ad158 := (by injection e158)
                            replace hx158_0 := (HB.out.cell (World.block_lt_of_cell? w _ hx158_0)).trans hx158_0
                            replace p158 := eq_true p158
                            replace q158 := eq_true q158
                            have p24 : 0 ≤ (x31_2 : Int) := of_decide_eq_true (by first | (with_reducible assumption) | assumption)
                            have q24 : x31_2 < (t157.size : Int) := of_decide_eq_true (by first | (with_reducible assumption) | assumption)
                            have hx24 := bt_at t157 x31_2
                            replace p24 := eq_true p24
                            replace q24 := eq_true q24
                            go_wp2_with (first | ((with_reducible refine gate_callee (f := 45) rfl ?_); refine goesL_ (some 46) rfl rfl Try.func45 (by kernel_rfl) rfl #[.string (rdOf ByteArray.empty l0 (ji19))] rfl (by (try simp only [List.map_toArray, List.map_cons, List.map_nil]); first | done | (simp only [hji19]; rfl) | rfl | (simp only [List.length_drop, List.length_take]; rfl)) ?_; (with_reducible refine (console_Number.calls (rdOf ByteArray.empty l0 (ji19)) t159 false _ A26.out).mono ?_); rintro e w31 ⟨rfl, hb⟩; refine ⟨_, rfl, ?_⟩; have n0_ := Aside0.mk (Kd.R_below (by (with_reducible repeat (first | apply Kd.R_alloc | apply Kd.R_drewN | apply Kd.R_drew)); exact HO_157004.out) hb); have n1_ := Aside0.mk (Kd.R_below (by (with_reducible repeat (first | apply Kd.R_alloc | apply Kd.R_drewN | apply Kd.R_drew)); exact HO_157005.out) hb); have n2_ := Aside0.mk (blk_below (g := gb153) (o := .cells #[.int .i64 x154000_2, .int .i64 x154001_2, .int .i64 x154002_2, .int .i64 x154003_2, .slice none 0 0, .slice none 0 0] 27 (0, 0)) (by (with_reducible repeat (first | refine blk_drewN ?_ _ | refine blk_drew ?_ | refine blk_alloc ?_ _)); exact BK153.out) hb); have n3_ := Aside0.mk (blk_below (g := gb156) (o := .cells #[.int .i64 t155, .int .i64 x157001_2, .int .i64 x157002_2, .int .i64 x157003_2, u157004, u157005] 27 (0, 0)) (by (with_reducible repeat (first | refine blk_drewN ?_ _ | refine blk_drew ?_ | refine blk_alloc ?_ _)); exact BK156.out) hb); have n4_ := Aside0.mk (below_step (by repeat (first | (with_reducible first | exact HB.out | apply below_alloc | apply pw_below_drewN | apply below_drew1 | refine below_set ?_ GE153.out | refine below_set ?_ GE156.out) | exact HB.out)) hb); clear HO_157004; clear HO_157005; clear BK153; clear BK156; clear HB; have HO_157004 := n0_; have HO_157005 := n1_; have BK153 := n2_; have BK156 := n3_; have HB := n4_; clear n0_ n1_ n2_ n3_ n4_; (try clear hb); (try clear hb2); (try clear hk); (try clear hi); have hnb32 := NB156_153.out; have hnc32 := NB153_156.out; have hcz33_0 : w31.cell? ⟨gb156, 0, none⟩ = some (.int .i64 t155) := (blk_cell BK156.out 0).trans rfl; have hcz33_1 : w31.cell? ⟨gb156, 1, none⟩ = some (.int .i64 x157001_2) := (blk_cell BK156.out 1).trans rfl; have hcz33_2 : w31.cell? ⟨gb156, 2, none⟩ = some (.int .i64 x157002_2) := (blk_cell BK156.out 2).trans rfl; have hcz33_3 : w31.cell? ⟨gb156, 3, none⟩ = some (.int .i64 x157003_2) := (blk_cell BK156.out 3).trans rfl; have hcz33_4 : w31.cell? ⟨gb156, 4, none⟩ = some (u157004) := (blk_cell BK156.out 4).trans rfl; have hcz33_5 : w31.cell? ⟨gb156, 5, none⟩ = some (u157005) := (blk_cell BK156.out 5).trans rfl; have hfz33_0 := blk_frozen BK156.out 0; have hfz33_1 := blk_frozen BK156.out 1; have hfz33_2 := blk_frozen BK156.out 2; have hfz33_3 := blk_frozen BK156.out 3; have hfz33_4 := blk_frozen BK156.out 4; have hfz33_5 := blk_frozen BK156.out 5; have hcz34_0 : w31.cell? ⟨gb153, 0, none⟩ = some (.int .i64 x154000_2) := (blk_cell BK153.out 0).trans rfl; have hcz34_1 : w31.cell? ⟨gb153, 1, none⟩ = some (.int .i64 x154001_2) := (blk_cell BK153.out 1).trans rfl; have hcz34_2 : w31.cell? ⟨gb153, 2, none⟩ = some (.int .i64 x154002_2) := (blk_cell BK153.out 2).trans rfl; have hcz34_3 : w31.cell? ⟨gb153, 3, none⟩ = some (.int .i64 x154003_2) := (blk_cell BK153.out 3).trans rfl; have hcz34_4 : w31.cell? ⟨gb153, 4, none⟩ = some (.slice none 0 0) := (blk_cell BK153.out 4).trans rfl; have hcz34_5 : w31.cell? ⟨gb153, 5, none⟩ = some (.slice none 0 0) := (blk_cell BK153.out 5).trans rfl; have hfz34_0 := blk_frozen BK153.out 0; have hfz34_1 := blk_frozen BK153.out 1; have hfz34_2 := blk_frozen BK153.out 2; have hfz34_3 := blk_frozen BK153.out 3; have hfz34_4 := blk_frozen BK153.out 4; have hfz34_5 := blk_frozen BK153.out 5))
                            refine bodyPost_ret (results_ct rfl _ _ gb153 27 #[.int .i64 0, .int .i64 0, .int .i64 0, .int .i64 0, .slice none 0 0, .slice none 0 0] (0, 0) _ rfl (by (with_reducible repeat (first | refine blk_drewN ?_ _ | refine blk_drew ?_ | refine blk_alloc ?_ _)); refine blk_put (cs := #[.int .i64 0, .int .i64 0, .int .i64 0, .int .i64 0, .slice none 0 0, .slice none 0 0]) ?_ 5 _ rfl; (with_reducible repeat (first | refine blk_drewN ?_ _ | refine blk_drew ?_ | refine blk_alloc ?_ _)); refine blk_put (cs := #[.int .i64 0, .int .i64 0, .int .i64 0, .int .i64 0, .slice none 0 0, .slice none 0 0]) ?_ 4 _ rfl; (with_reducible repeat (first | refine blk_drewN ?_ _ | refine blk_drew ?_ | refine blk_alloc ?_ _)); refine blk_put (cs := #[.int .i64 0, .int .i64 0, .int .i64 0, .int .i64 x154003_2, .slice none 0 0, .slice none 0 0]) ?_ 3 _ rfl; (with_reducible repeat (first | refine blk_drewN ?_ _ | refine blk_drew ?_ | refine blk_alloc ?_ _)); refine blk_put (cs := #[.int .i64 0, .int .i64 0, .int .i64 x154002_2, .int .i64 x154003_2, .slice none 0 0, .slice none 0 0]) ?_ 2 _ rfl; (with_reducible repeat (first | refine blk_drewN ?_ _ | refine blk_drew ?_ | refine blk_alloc ?_ _)); refine blk_put (cs := #[.int .i64 0, .int .i64 x154001_2, .int .i64 x154002_2, .int .i64 x154003_2, .slice none 0 0, .slice none 0 0]) ?_ 1 _ rfl; (with_reducible repeat (first | refine blk_drewN ?_ _ | refine blk_drew ?_ | refine blk_alloc ?_ _)); refine blk_put (cs := #[.int .i64 x154000_2, .int .i64 x154001_2, .int .i64 x154002_2, .int .i64 x154003_2, .slice none 0 0, .slice none 0 0]) ?_ 0 _ rfl; (with_reducible repeat (first | refine blk_drewN ?_ _ | refine blk_drew ?_ | refine blk_alloc ?_ _)); refine blk_far ?_ NB153_156.out _; (with_reducible repeat (first | refine blk_drewN ?_ _ | refine blk_drew ?_ | refine blk_alloc ?_ _)); exact BK153.out) Try.underlying27 rfl (by kernel_rfl)) rfl ?_
                            exact ⟨_, _, by first | rfl | (simp [errW_none, errW_some] <;> rfl) | (simp only [← hji19]; first | rfl | (simp [errW_none, errW_some] <;> rfl)) | (simp [*, errW_none, errW_some] <;> rfl), by first | exact Kd.R_nil _ _ _ _ _ | exact Kd.N_nil _ _ _ _ _ | exact Kd.V_nil _ _ _ _ _ | exact Kd.Q_nil _ _ _ _ _ | exact Kd.S_nil _ _ _ _ _, by first | exact Kd.R_nil _ _ _ _ _ | exact Kd.N_nil _ _ _ _ _ | exact Kd.V_nil _ _ _ _ _ | exact Kd.Q_nil _ _ _ _ _ | exact Kd.S_nil _ _ _ _ _, by repeat (first | (with_reducible first | exact HB.out | apply below_alloc | apply pw_below_drewN | apply below_drew1 | refine below_set ?_ GE153.out | refine below_set ?_ GE156.out) | exact HB.out)⟩
                        · rw [if_neg c25] at H
                          have c25b0 : ((bt t157 x31_2) == 110) = false := beq_eq_false_iff_ne.mpr c25
                          have c25b1 : ((bt t157 x31_2) != 110) = true := bne_iff_ne.mpr c25
                          by_cases c35 : (bt t157 x31_2) = 108
                          · rw [if_pos c35] at H
                            have c35b0 : ((bt t157 x31_2) == 108) = true := beq_iff_eq.mpr c35
                            have c35b1 : ((bt t157 x31_2) != 108) = false := bne_eq_false_iff_eq.mpr c35
                            clear c35
                            replace H := Option.bind_eq_some_iff.mp H
                            obtain ⟨⟨t161, t162⟩, A360, H⟩ := H
                            replace H : (if t162 = true then (console_told.l0 k2 l0 t157 (t157.size : Int) ji19 t155 x157001_2 t161 x157003_2 x157004_2 x157005_2) else (some (0, 0, 0, 0, ([] : List Int), ([] : List Int), false))) = some (r1, r2, r3, r4, r5, r6, r7) := H
                            have A36 := Aside0.mk A360
                            clear A360
                            by_cases c37 : t162 = true
                            · subst c37
                              have H1 : (console_told.l0 k2 l0 t157 (t157.size : Int) ji19 t155 x157001_2 t161 x157003_2 x157004_2 x157005_2) = some (r1, r2, r3, r4, r5, r6, r7) := by rw [if_pos rfl] at H; exact H
                              clear H
                              have H := H1
                              clear H1
                              have H' := Aside0.mk H
                              clear H
                              have p158 : 0 ≤ ((ji19) : Int) := of_decide_eq_true (by first | (with_reducible assumption) | assumption)
                              have q158 : (ji19) < (l0.length : Int) := of_decide_eq_true (by first | (with_reducible assumption) | assumption)
                              obtain ⟨ad158, e158, hx158_0⟩ := Kd.at_string HR0.out (ji19) p158 q158
                              obtain rfl : ad154 = ad158 := (by injection e158)
                              replace hx158_0 := (HB.out.cell (World.block_lt_of_cell? w _ hx158_0)).trans hx158_0
                              replace p158 := eq_true p158
                              replace q158 := eq_true q158
                              have p24 : 0 ≤ (x31_2 : Int) := of_decide_eq_true (by first | (with_reducible assumption) | assumption)
                              have q24 : x31_2 < (t157.size : Int) := of_decide_eq_true (by first | (with_reducible assumption) | assumption)
                              have hx24 := bt_at t157 x31_2
                              replace p24 := eq_true p24
                              replace q24 := eq_true q24
                              go_wp2_with (first | ((with_reducible refine gate_callee (f := 45) rfl ?_); refine goesL_ (some 54) rfl rfl Try.func45 (by kernel_rfl) rfl #[.string (rdOf ByteArray.empty l0 (ji19))] rfl (by (try simp only [List.map_toArray, List.map_cons, List.map_nil]); first | done | (simp only [hji19]; rfl) | rfl | (simp only [List.length_drop, List.length_take]; rfl)) ?_; (with_reducible refine (console_Number.calls (rdOf ByteArray.empty l0 (ji19)) t161 true _ A36.out).mono ?_); rintro e w38 ⟨rfl, hb⟩; refine ⟨_, rfl, ?_⟩; have n0_ := Aside0.mk (Kd.R_below (by (with_reducible repeat (first | apply Kd.R_alloc | apply Kd.R_drewN | apply Kd.R_drew)); exact HO_157004.out) hb); have n1_ := Aside0.mk (Kd.R_below (by (with_reducible repeat (first | apply Kd.R_alloc | apply Kd.R_drewN | apply Kd.R_drew)); exact HO_157005.out) hb); have n2_ := Aside0.mk (blk_below (g := gb153) (o := .cells #[.int .i64 x154000_2, .int .i64 x154001_2, .int .i64 x154002_2, .int .i64 x154003_2, .slice none 0 0, .slice none 0 0] 27 (0, 0)) (by (with_reducible repeat (first | refine blk_drewN ?_ _ | refine blk_drew ?_ | refine blk_alloc ?_ _)); exact BK153.out) hb); have n3_ := Aside0.mk (blk_below (g := gb156) (o := .cells #[.int .i64 t155, .int .i64 x157001_2, .int .i64 x157002_2, .int .i64 x157003_2, u157004, u157005] 27 (0, 0)) (by (with_reducible repeat (first | refine blk_drewN ?_ _ | refine blk_drew ?_ | refine blk_alloc ?_ _)); exact BK156.out) hb); have n4_ := Aside0.mk (below_step (by repeat (first | (with_reducible first | exact HB.out | apply below_alloc | apply pw_below_drewN | apply below_drew1 | refine below_set ?_ GE153.out | refine below_set ?_ GE156.out) | exact HB.out)) hb); clear HO_157004; clear HO_157005; clear BK153; clear BK156; clear HB; have HO_157004 := n0_; have HO_157005 := n1_; have BK153 := n2_; have BK156 := n3_; have HB := n4_; clear n0_ n1_ n2_ n3_ n4_; (try clear hb); (try clear hb2); (try clear hk); (try clear hi); have hnb39 := NB156_153.out; have hnc39 := NB153_156.out; have hcz40_0 : w38.cell? ⟨gb156, 0, none⟩ = some (.int .i64 t155) := (blk_cell BK156.out 0).trans rfl; have hcz40_1 : w38.cell? ⟨gb156, 1, none⟩ = some (.int .i64 x157001_2) := (blk_cell BK156.out 1).trans rfl; have hcz40_2 : w38.cell? ⟨gb156, 2, none⟩ = some (.int .i64 x157002_2) := (blk_cell BK156.out 2).trans rfl; have hcz40_3 : w38.cell? ⟨gb156, 3, none⟩ = some (.int .i64 x157003_2) := (blk_cell BK156.out 3).trans rfl; have hcz40_4 : w38.cell? ⟨gb156, 4, none⟩ = some (u157004) := (blk_cell BK156.out 4).trans rfl; have hcz40_5 : w38.cell? ⟨gb156, 5, none⟩ = some (u157005) := (blk_cell BK156.out 5).trans rfl; have hfz40_0 := blk_frozen BK156.out 0; have hfz40_1 := blk_frozen BK156.out 1; have hfz40_2 := blk_frozen BK156.out 2; have hfz40_3 := blk_frozen BK156.out 3; have hfz40_4 := blk_frozen BK156.out 4; have hfz40_5 := blk_frozen BK156.out 5))
                              go_roundg k2
                              case measure => have := HJ4.out; have := HK2.out; omega
                              case rel => exact ⟨(ji19), (x154000_2), (x154001_2), (x154002_2), (x154003_2), (x157001_2), (t161), (x157003_2), (x157004_2), (x157005_2), (u157004), (u157005), (by first | rfl | (simp; done) | (simp only [← hji19] <;> (first | rfl | simp)) | (simp [*]; done)), H', ⟨by have := HJ4.out; have := HK2.out; omega⟩, ⟨by (with_reducible repeat (first | apply Kd.R_alloc | apply Kd.R_drewN | apply Kd.R_drew)); exact Kd.R_mono (Kd.R_far (p := ⟨gb156, 2, none⟩) (Kd.R_types HO_157004.out BK156.out (by decide)) (fun _ hk => by first | exact hk.2 | trivial) (.int .i64 t161)) (fun _ hk => hk.1)⟩, ⟨by (with_reducible repeat (first | apply Kd.R_alloc | apply Kd.R_drewN | apply Kd.R_drew)); exact Kd.R_mono (Kd.R_far (p := ⟨gb156, 2, none⟩) (Kd.R_types HO_157005.out BK156.out (by decide)) (fun _ hk => by first | exact hk.2 | trivial) (.int .i64 t161)) (fun _ hk => hk.1)⟩, ⟨by (with_reducible repeat (first | refine blk_drewN ?_ _ | refine blk_drew ?_ | refine blk_alloc ?_ _)); refine blk_far ?_ NB153_156.out _; (with_reducible repeat (first | refine blk_drewN ?_ _ | refine blk_drew ?_ | refine blk_alloc ?_ _)); exact BK153.out⟩, ⟨by (with_reducible repeat (first | refine blk_drewN ?_ _ | refine blk_drew ?_ | refine blk_alloc ?_ _)); refine blk_put (cs := #[.int .i64 t155, .int .i64 x157001_2, .int .i64 x157002_2, .int .i64 x157003_2, u157004, u157005]) ?_ 2 _ rfl; (with_reducible repeat (first | refine blk_drewN ?_ _ | refine blk_drew ?_ | refine blk_alloc ?_ _)); exact BK156.out⟩, ⟨by repeat (first | (with_reducible first | exact HB.out | apply below_alloc | apply pw_below_drewN | apply below_drew1 | refine below_set ?_ GE153.out | refine below_set ?_ GE156.out) | exact HB.out)⟩⟩
                            · replace c37 := Bool.eq_false_iff.mpr c37
                              subst c37
                              have H1 : (some (0, 0, 0, 0, ([] : List Int), ([] : List Int), false)) = some (r1, r2, r3, r4, r5, r6, r7) := by rw [if_neg (show ¬ (false = true) by decide)] at H; exact H
                              clear H
                              have H := H1
                              clear H1
                              simp only [Option.some.injEq, Prod.mk.injEq] at H
                              obtain ⟨rfl, rfl, rfl, rfl, rfl, rfl, rfl⟩ := H
                              have p158 : 0 ≤ ((ji19) : Int) := of_decide_eq_true (by first | (with_reducible assumption) | assumption)
                              have q158 : (ji19) < (l0.length : Int) := of_decide_eq_true (by first | (with_reducible assumption) | assumption)
                              obtain ⟨ad158, e158, hx158_0⟩ := Kd.at_string HR0.out (ji19) p158 q158
                              obtain rfl : ad154 = ad158 := (by injection e158)
                              replace hx158_0 := (HB.out.cell (World.block_lt_of_cell? w _ hx158_0)).trans hx158_0
                              replace p158 := eq_true p158
                              replace q158 := eq_true q158
                              have p24 : 0 ≤ (x31_2 : Int) := of_decide_eq_true (by first | (with_reducible assumption) | assumption)
                              have q24 : x31_2 < (t157.size : Int) := of_decide_eq_true (by first | (with_reducible assumption) | assumption)
                              have hx24 := bt_at t157 x31_2
                              replace p24 := eq_true p24
                              replace q24 := eq_true q24
                              go_wp2_with (first | ((with_reducible refine gate_callee (f := 45) rfl ?_); refine goesL_ (some 54) rfl rfl Try.func45 (by kernel_rfl) rfl #[.string (rdOf ByteArray.empty l0 (ji19))] rfl (by (try simp only [List.map_toArray, List.map_cons, List.map_nil]); first | done | (simp only [hji19]; rfl) | rfl | (simp only [List.length_drop, List.length_take]; rfl)) ?_; (with_reducible refine (console_Number.calls (rdOf ByteArray.empty l0 (ji19)) t161 false _ A36.out).mono ?_); rintro e w41 ⟨rfl, hb⟩; refine ⟨_, rfl, ?_⟩; have n0_ := Aside0.mk (Kd.R_below (by (with_reducible repeat (first | apply Kd.R_alloc | apply Kd.R_drewN | apply Kd.R_drew)); exact HO_157004.out) hb); have n1_ := Aside0.mk (Kd.R_below (by (with_reducible repeat (first | apply Kd.R_alloc | apply Kd.R_drewN | apply Kd.R_drew)); exact HO_157005.out) hb); have n2_ := Aside0.mk (blk_below (g := gb153) (o := .cells #[.int .i64 x154000_2, .int .i64 x154001_2, .int .i64 x154002_2, .int .i64 x154003_2, .slice none 0 0, .slice none 0 0] 27 (0, 0)) (by (with_reducible repeat (first | refine blk_drewN ?_ _ | refine blk_drew ?_ | refine blk_alloc ?_ _)); exact BK153.out) hb); have n3_ := Aside0.mk (blk_below (g := gb156) (o := .cells #[.int .i64 t155, .int .i64 x157001_2, .int .i64 x157002_2, .int .i64 x157003_2, u157004, u157005] 27 (0, 0)) (by (with_reducible repeat (first | refine blk_drewN ?_ _ | refine blk_drew ?_ | refine blk_alloc ?_ _)); exact BK156.out) hb); have n4_ := Aside0.mk (below_step (by repeat (first | (with_reducible first | exact HB.out | apply below_alloc | apply pw_below_drewN | apply below_drew1 | refine below_set ?_ GE153.out | refine below_set ?_ GE156.out) | exact HB.out)) hb); clear HO_157004; clear HO_157005; clear BK153; clear BK156; clear HB; have HO_157004 := n0_; have HO_157005 := n1_; have BK153 := n2_; have BK156 := n3_; have HB := n4_; clear n0_ n1_ n2_ n3_ n4_; (try clear hb); (try clear hb2); (try clear hk); (try clear hi); have hnb42 := NB156_153.out; have hnc42 := NB153_156.out; have hcz43_0 : w41.cell? ⟨gb156, 0, none⟩ = some (.int .i64 t155) := (blk_cell BK156.out 0).trans rfl; have hcz43_1 : w41.cell? ⟨gb156, 1, none⟩ = some (.int .i64 x157001_2) := (blk_cell BK156.out 1).trans rfl; have hcz43_2 : w41.cell? ⟨gb156, 2, none⟩ = some (.int .i64 x157002_2) := (blk_cell BK156.out 2).trans rfl; have hcz43_3 : w41.cell? ⟨gb156, 3, none⟩ = some (.int .i64 x157003_2) := (blk_cell BK156.out 3).trans rfl; have hcz43_4 : w41.cell? ⟨gb156, 4, none⟩ = some (u157004) := (blk_cell BK156.out 4).trans rfl; have hcz43_5 : w41.cell? ⟨gb156, 5, none⟩ = some (u157005) := (blk_cell BK156.out 5).trans rfl; have hfz43_0 := blk_frozen BK156.out 0; have hfz43_1 := blk_frozen BK156.out 1; have hfz43_2 := blk_frozen BK156.out 2; have hfz43_3 := blk_frozen BK156.out 3; have hfz43_4 := blk_frozen BK156.out 4; have hfz43_5 := blk_frozen BK156.out 5; have hcz44_0 : w41.cell? ⟨gb153, 0, none⟩ = some (.int .i64 x154000_2) := (blk_cell BK153.out 0).trans rfl; have hcz44_1 : w41.cell? ⟨gb153, 1, none⟩ = some (.int .i64 x154001_2) := (blk_cell BK153.out 1).trans rfl; have hcz44_2 : w41.cell? ⟨gb153, 2, none⟩ = some (.int .i64 x154002_2) := (blk_cell BK153.out 2).trans rfl; have hcz44_3 : w41.cell? ⟨gb153, 3, none⟩ = some (.int .i64 x154003_2) := (blk_cell BK153.out 3).trans rfl; have hcz44_4 : w41.cell? ⟨gb153, 4, none⟩ = some (.slice none 0 0) := (blk_cell BK153.out 4).trans rfl; have hcz44_5 : w41.cell? ⟨gb153, 5, none⟩ = some (.slice none 0 0) := (blk_cell BK153.out 5).trans rfl; have hfz44_0 := blk_frozen BK153.out 0; have hfz44_1 := blk_frozen BK153.out 1; have hfz44_2 := blk_frozen BK153.out 2; have hfz44_3 := blk_frozen BK153.out 3; have hfz44_4 := blk_frozen BK153.out 4; have hfz44_5 := blk_frozen BK153.out 5))
                              refine bodyPost_ret (results_ct rfl _ _ gb153 27 #[.int .i64 0, .int .i64 0, .int .i64 0, .int .i64 0, .slice none 0 0, .slice none 0 0] (0, 0) _ rfl (by (with_reducible repeat (first | refine blk_drewN ?_ _ | refine blk_drew ?_ | refine blk_alloc ?_ _)); refine blk_put (cs := #[.int .i64 0, .int .i64 0, .int .i64 0, .int .i64 0, .slice none 0 0, .slice none 0 0]) ?_ 5 _ rfl; (with_reducible repeat (first | refine blk_drewN ?_ _ | refine blk_drew ?_ | refine blk_alloc ?_ _)); refine blk_put (cs := #[.int .i64 0, .int .i64 0, .int .i64 0, .int .i64 0, .slice none 0 0, .slice none 0 0]) ?_ 4 _ rfl; (with_reducible repeat (first | refine blk_drewN ?_ _ | refine blk_drew ?_ | refine blk_alloc ?_ _)); refine blk_put (cs := #[.int .i64 0, .int .i64 0, .int .i64 0, .int .i64 x154003_2, .slice none 0 0, .slice none 0 0]) ?_ 3 _ rfl; (with_reducible repeat (first | refine blk_drewN ?_ _ | refine blk_drew ?_ | refine blk_alloc ?_ _)); refine blk_put (cs := #[.int .i64 0, .int .i64 0, .int .i64 x154002_2, .int .i64 x154003_2, .slice none 0 0, .slice none 0 0]) ?_ 2 _ rfl; (with_reducible repeat (first | refine blk_drewN ?_ _ | refine blk_drew ?_ | refine blk_alloc ?_ _)); refine blk_put (cs := #[.int .i64 0, .int .i64 x154001_2, .int .i64 x154002_2, .int .i64 x154003_2, .slice none 0 0, .slice none 0 0]) ?_ 1 _ rfl; (with_reducible repeat (first | refine blk_drewN ?_ _ | refine blk_drew ?_ | refine blk_alloc ?_ _)); refine blk_put (cs := #[.int .i64 x154000_2, .int .i64 x154001_2, .int .i64 x154002_2, .int .i64 x154003_2, .slice none 0 0, .slice none 0 0]) ?_ 0 _ rfl; (with_reducible repeat (first | refine blk_drewN ?_ _ | refine blk_drew ?_ | refine blk_alloc ?_ _)); refine blk_far ?_ NB153_156.out _; (with_reducible repeat (first | refine blk_drewN ?_ _ | refine blk_drew ?_ | refine blk_alloc ?_ _)); exact BK153.out) Try.underlying27 rfl (by kernel_rfl)) rfl ?_
                              exact ⟨_, _, by first | rfl | (simp [errW_none, errW_some] <;> rfl) | (simp only [← hji19]; first | rfl | (simp [errW_none, errW_some] <;> rfl)) | (simp [*, errW_none, errW_some] <;> rfl), by first | exact Kd.R_nil _ _ _ _ _ | exact Kd.N_nil _ _ _ _ _ | exact Kd.V_nil _ _ _ _ _ | exact Kd.Q_nil _ _ _ _ _ | exact Kd.S_nil _ _ _ _ _, by first | exact Kd.R_nil _ _ _ _ _ | exact Kd.N_nil _ _ _ _ _ | exact Kd.V_nil _ _ _ _ _ | exact Kd.Q_nil _ _ _ _ _ | exact Kd.S_nil _ _ _ _ _, by repeat (first | (with_reducible first | exact HB.out | apply below_alloc | apply pw_below_drewN | apply below_drew1 | refine below_set ?_ GE153.out | refine below_set ?_ GE156.out) | exact HB.out)⟩
                          · rw [if_neg c35] at H
                            have c35b0 : ((bt t157 x31_2) == 108) = false := beq_eq_false_iff_ne.mpr c35
                            have c35b1 : ((bt t157 x31_2) != 108) = true := bne_iff_ne.mpr c35
                            by_cases c45 : (bt t157 x31_2) = 99
                            · rw [if_pos c45] at H
                              have c45b0 : ((bt t157 x31_2) == 99) = true := beq_iff_eq.mpr c45
                              have c45b1 : ((bt t157 x31_2) != 99) = false := bne_eq_false_iff_eq.mpr c45
                              clear c45
                              replace H := Option.bind_eq_some_iff.mp H
                              obtain ⟨⟨t163, t164⟩, A460, H⟩ := H
                              replace H : (if t164 = true then (console_told.l0 k2 l0 t157 (t157.size : Int) ji19 t155 x157001_2 x157002_2 t163 x157004_2 x157005_2) else (some (0, 0, 0, 0, ([] : List Int), ([] : List Int), false))) = some (r1, r2, r3, r4, r5, r6, r7) := H
                              have A46 := Aside0.mk A460
                              clear A460
                              by_cases c47 : t164 = true
                              · subst c47
                                have H1 : (console_told.l0 k2 l0 t157 (t157.size : Int) ji19 t155 x157001_2 x157002_2 t163 x157004_2 x157005_2) = some (r1, r2, r3, r4, r5, r6, r7) := by rw [if_pos rfl] at H; exact H
                                clear H
                                have H := H1
                                clear H1
                                have H' := Aside0.mk H
                                clear H
                                have p158 : 0 ≤ ((ji19) : Int) := of_decide_eq_true (by first | (with_reducible assumption) | assumption)
                                have q158 : (ji19) < (l0.length : Int) := of_decide_eq_true (by first | (with_reducible assumption) | assumption)
                                obtain ⟨ad158, e158, hx158_0⟩ := Kd.at_string HR0.out (ji19) p158 q158
                                obtain rfl : ad154 = ad158 := (by injection e158)
                                replace hx158_0 := (HB.out.cell (World.block_lt_of_cell? w _ hx158_0)).trans hx158_0
                                replace p158 := eq_true p158
                                replace q158 := eq_true q158
                                have p24 : 0 ≤ (x31_2 : Int) := of_decide_eq_true (by first | (with_reducible assumption) | assumption)
                                have q24 : x31_2 < (t157.size : Int) := of_decide_eq_true (by first | (with_reducible assumption) | assumption)
                                have hx24 := bt_at t157 x31_2
                                replace p24 := eq_true p24
                                replace q24 := eq_true q24
                                go_wp2_with (first | ((with_reducible refine gate_callee (f := 45) rfl ?_); refine goesL_ (some 62) rfl rfl Try.func45 (by kernel_rfl) rfl #[.string (rdOf ByteArray.empty l0 (ji19))] rfl (by (try simp only [List.map_toArray, List.map_cons, List.map_nil]); first | done | (simp only [hji19]; rfl) | rfl | (simp only [List.length_drop, List.length_take]; rfl)) ?_; (with_reducible refine (console_Number.calls (rdOf ByteArray.empty l0 (ji19)) t163 true _ A46.out).mono ?_); rintro e w48 ⟨rfl, hb⟩; refine ⟨_, rfl, ?_⟩; have n0_ := Aside0.mk (Kd.R_below (by (with_reducible repeat (first | apply Kd.R_alloc | apply Kd.R_drewN | apply Kd.R_drew)); exact HO_157004.out) hb); have n1_ := Aside0.mk (Kd.R_below (by (with_reducible repeat (first | apply Kd.R_alloc | apply Kd.R_drewN | apply Kd.R_drew)); exact HO_157005.out) hb); have n2_ := Aside0.mk (blk_below (g := gb153) (o := .cells #[.int .i64 x154000_2, .int .i64 x154001_2, .int .i64 x154002_2, .int .i64 x154003_2, .slice none 0 0, .slice none 0 0] 27 (0, 0)) (by (with_reducible repeat (first | refine blk_drewN ?_ _ | refine blk_drew ?_ | refine blk_alloc ?_ _)); exact BK153.out) hb); have n3_ := Aside0.mk (blk_below (g := gb156) (o := .cells #[.int .i64 t155, .int .i64 x157001_2, .int .i64 x157002_2, .int .i64 x157003_2, u157004, u157005] 27 (0, 0)) (by (with_reducible repeat (first | refine blk_drewN ?_ _ | refine blk_drew ?_ | refine blk_alloc ?_ _)); exact BK156.out) hb); have n4_ := Aside0.mk (below_step (by repeat (first | (with_reducible first | exact HB.out | apply below_alloc | apply pw_below_drewN | apply below_drew1 | refine below_set ?_ GE153.out | refine below_set ?_ GE156.out) | exact HB.out)) hb); clear HO_157004; clear HO_157005; clear BK153; clear BK156; clear HB; have HO_157004 := n0_; have HO_157005 := n1_; have BK153 := n2_; have BK156 := n3_; have HB := n4_; clear n0_ n1_ n2_ n3_ n4_; (try clear hb); (try clear hb2); (try clear hk); (try clear hi); have hnb49 := NB156_153.out; have hnc49 := NB153_156.out; have hcz50_0 : w48.cell? ⟨gb156, 0, none⟩ = some (.int .i64 t155) := (blk_cell BK156.out 0).trans rfl; have hcz50_1 : w48.cell? ⟨gb156, 1, none⟩ = some (.int .i64 x157001_2) := (blk_cell BK156.out 1).trans rfl; have hcz50_2 : w48.cell? ⟨gb156, 2, none⟩ = some (.int .i64 x157002_2) := (blk_cell BK156.out 2).trans rfl; have hcz50_3 : w48.cell? ⟨gb156, 3, none⟩ = some (.int .i64 x157003_2) := (blk_cell BK156.out 3).trans rfl; have hcz50_4 : w48.cell? ⟨gb156, 4, none⟩ = some (u157004) := (blk_cell BK156.out 4).trans rfl; have hcz50_5 : w48.cell? ⟨gb156, 5, none⟩ = some (u157005) := (blk_cell BK156.out 5).trans rfl; have hfz50_0 := blk_frozen BK156.out 0; have hfz50_1 := blk_frozen BK156.out 1; have hfz50_2 := blk_frozen BK156.out 2; have hfz50_3 := blk_frozen BK156.out 3; have hfz50_4 := blk_frozen BK156.out 4; have hfz50_5 := blk_frozen BK156.out 5))
                                go_roundg k2
                                case measure => have := HJ4.out; have := HK2.out; omega
                                case rel => exact ⟨(ji19), (x154000_2), (x154001_2), (x154002_2), (x154003_2), (x157001_2), (x157002_2), (t163), (x157004_2), (x157005_2), (u157004), (u157005), (by first | rfl | (simp; done) | (simp only [← hji19] <;> (first | rfl | simp)) | (simp [*]; done)), H', ⟨by have := HJ4.out; have := HK2.out; omega⟩, ⟨by (with_reducible repeat (first | apply Kd.R_alloc | apply Kd.R_drewN | apply Kd.R_drew)); exact Kd.R_mono (Kd.R_far (p := ⟨gb156, 3, none⟩) (Kd.R_types HO_157004.out BK156.out (by decide)) (fun _ hk => by first | exact hk.2 | trivial) (.int .i64 t163)) (fun _ hk => hk.1)⟩, ⟨by (with_reducible repeat (first | apply Kd.R_alloc | apply Kd.R_drewN | apply Kd.R_drew)); exact Kd.R_mono (Kd.R_far (p := ⟨gb156, 3, none⟩) (Kd.R_types HO_157005.out BK156.out (by decide)) (fun _ hk => by first | exact hk.2 | trivial) (.int .i64 t163)) (fun _ hk => hk.1)⟩, ⟨by (with_reducible repeat (first | refine blk_drewN ?_ _ | refine blk_drew ?_ | refine blk_alloc ?_ _)); refine blk_far ?_ NB153_156.out _; (with_reducible repeat (first | refine blk_drewN ?_ _ | refine blk_drew ?_ | refine blk_alloc ?_ _)); exact BK153.out⟩, ⟨by (with_reducible repeat (first | refine blk_drewN ?_ _ | refine blk_drew ?_ | refine blk_alloc ?_ _)); refine blk_put (cs := #[.int .i64 t155, .int .i64 x157001_2, .int .i64 x157002_2, .int .i64 x157003_2, u157004, u157005]) ?_ 3 _ rfl; (with_reducible repeat (first | refine blk_drewN ?_ _ | refine blk_drew ?_ | refine blk_alloc ?_ _)); exact BK156.out⟩, ⟨by repeat (first | (with_reducible first | exact HB.out | apply below_alloc | apply pw_below_drewN | apply below_drew1 | refine below_set ?_ GE153.out | refine below_set ?_ GE156.out) | exact HB.out)⟩⟩
                              · replace c47 := Bool.eq_false_iff.mpr c47
                                subst c47
                                have H1 : (some (0, 0, 0, 0, ([] : List Int), ([] : List Int), false)) = some (r1, r2, r3, r4, r5, r6, r7) := by rw [if_neg (show ¬ (false = true) by decide)] at H; exact H
                                clear H
                                have H := H1
                                clear H1
                                simp only [Option.some.injEq, Prod.mk.injEq] at H
                                obtain ⟨rfl, rfl, rfl, rfl, rfl, rfl, rfl⟩ := H
                                have p158 : 0 ≤ ((ji19) : Int) := of_decide_eq_true (by first | (with_reducible assumption) | assumption)
                                have q158 : (ji19) < (l0.length : Int) := of_decide_eq_true (by first | (with_reducible assumption) | assumption)
                                obtain ⟨ad158, e158, hx158_0⟩ := Kd.at_string HR0.out (ji19) p158 q158
                                obtain rfl : ad154 = ad158 := (by injection e158)
                                replace hx158_0 := (HB.out.cell (World.block_lt_of_cell? w _ hx158_0)).trans hx158_0
                                replace p158 := eq_true p158
                                replace q158 := eq_true q158
                                have p24 : 0 ≤ (x31_2 : Int) := of_decide_eq_true (by first | (with_reducible assumption) | assumption)
                                have q24 : x31_2 < (t157.size : Int) := of_decide_eq_true (by first | (with_reducible assumption) | assumption)
                                have hx24 := bt_at t157 x31_2
                                replace p24 := eq_true p24
                                replace q24 := eq_true q24
                                go_wp2_with (first | ((with_reducible refine gate_callee (f := 45) rfl ?_); refine goesL_ (some 62) rfl rfl Try.func45 (by kernel_rfl) rfl #[.string (rdOf ByteArray.empty l0 (ji19))] rfl (by (try simp only [List.map_toArray, List.map_cons, List.map_nil]); first | done | (simp only [hji19]; rfl) | rfl | (simp only [List.length_drop, List.length_take]; rfl)) ?_; (with_reducible refine (console_Number.calls (rdOf ByteArray.empty l0 (ji19)) t163 false _ A46.out).mono ?_); rintro e w51 ⟨rfl, hb⟩; refine ⟨_, rfl, ?_⟩; have n0_ := Aside0.mk (Kd.R_below (by (with_reducible repeat (first | apply Kd.R_alloc | apply Kd.R_drewN | apply Kd.R_drew)); exact HO_157004.out) hb); have n1_ := Aside0.mk (Kd.R_below (by (with_reducible repeat (first | apply Kd.R_alloc | apply Kd.R_drewN | apply Kd.R_drew)); exact HO_157005.out) hb); have n2_ := Aside0.mk (blk_below (g := gb153) (o := .cells #[.int .i64 x154000_2, .int .i64 x154001_2, .int .i64 x154002_2, .int .i64 x154003_2, .slice none 0 0, .slice none 0 0] 27 (0, 0)) (by (with_reducible repeat (first | refine blk_drewN ?_ _ | refine blk_drew ?_ | refine blk_alloc ?_ _)); exact BK153.out) hb); have n3_ := Aside0.mk (blk_below (g := gb156) (o := .cells #[.int .i64 t155, .int .i64 x157001_2, .int .i64 x157002_2, .int .i64 x157003_2, u157004, u157005] 27 (0, 0)) (by (with_reducible repeat (first | refine blk_drewN ?_ _ | refine blk_drew ?_ | refine blk_alloc ?_ _)); exact BK156.out) hb); have n4_ := Aside0.mk (below_step (by repeat (first | (with_reducible first | exact HB.out | apply below_alloc | apply pw_below_drewN | apply below_drew1 | refine below_set ?_ GE153.out | refine below_set ?_ GE156.out) | exact HB.out)) hb); clear HO_157004; clear HO_157005; clear BK153; clear BK156; clear HB; have HO_157004 := n0_; have HO_157005 := n1_; have BK153 := n2_; have BK156 := n3_; have HB := n4_; clear n0_ n1_ n2_ n3_ n4_; (try clear hb); (try clear hb2); (try clear hk); (try clear hi); have hnb52 := NB156_153.out; have hnc52 := NB153_156.out; have hcz53_0 : w51.cell? ⟨gb156, 0, none⟩ = some (.int .i64 t155) := (blk_cell BK156.out 0).trans rfl; have hcz53_1 : w51.cell? ⟨gb156, 1, none⟩ = some (.int .i64 x157001_2) := (blk_cell BK156.out 1).trans rfl; have hcz53_2 : w51.cell? ⟨gb156, 2, none⟩ = some (.int .i64 x157002_2) := (blk_cell BK156.out 2).trans rfl; have hcz53_3 : w51.cell? ⟨gb156, 3, none⟩ = some (.int .i64 x157003_2) := (blk_cell BK156.out 3).trans rfl; have hcz53_4 : w51.cell? ⟨gb156, 4, none⟩ = some (u157004) := (blk_cell BK156.out 4).trans rfl; have hcz53_5 : w51.cell? ⟨gb156, 5, none⟩ = some (u157005) := (blk_cell BK156.out 5).trans rfl; have hfz53_0 := blk_frozen BK156.out 0; have hfz53_1 := blk_frozen BK156.out 1; have hfz53_2 := blk_frozen BK156.out 2; have hfz53_3 := blk_frozen BK156.out 3; have hfz53_4 := blk_frozen BK156.out 4; have hfz53_5 := blk_frozen BK156.out 5; have hcz54_0 : w51.cell? ⟨gb153, 0, none⟩ = some (.int .i64 x154000_2) := (blk_cell BK153.out 0).trans rfl; have hcz54_1 : w51.cell? ⟨gb153, 1, none⟩ = some (.int .i64 x154001_2) := (blk_cell BK153.out 1).trans rfl; have hcz54_2 : w51.cell? ⟨gb153, 2, none⟩ = some (.int .i64 x154002_2) := (blk_cell BK153.out 2).trans rfl; have hcz54_3 : w51.cell? ⟨gb153, 3, none⟩ = some (.int .i64 x154003_2) := (blk_cell BK153.out 3).trans rfl; have hcz54_4 : w51.cell? ⟨gb153, 4, none⟩ = some (.slice none 0 0) := (blk_cell BK153.out 4).trans rfl; have hcz54_5 : w51.cell? ⟨gb153, 5, none⟩ = some (.slice none 0 0) := (blk_cell BK153.out 5).trans rfl; have hfz54_0 := blk_frozen BK153.out 0; have hfz54_1 := blk_frozen BK153.out 1; have hfz54_2 := blk_frozen BK153.out 2; have hfz54_3 := blk_frozen BK153.out 3; have hfz54_4 := blk_frozen BK153.out 4; have hfz54_5 := blk_frozen BK153.out 5))
                                refine bodyPost_ret (results_ct rfl _ _ gb153 27 #[.int .i64 0, .int .i64 0, .int .i64 0, .int .i64 0, .slice none 0 0, .slice none 0 0] (0, 0) _ rfl (by (with_reducible repeat (first | refine blk_drewN ?_ _ | refine blk_drew ?_ | refine blk_alloc ?_ _)); refine blk_put (cs := #[.int .i64 0, .int .i64 0, .int .i64 0, .int .i64 0, .slice none 0 0, .slice none 0 0]) ?_ 5 _ rfl; (with_reducible repeat (first | refine blk_drewN ?_ _ | refine blk_drew ?_ | refine blk_alloc ?_ _)); refine blk_put (cs := #[.int .i64 0, .int .i64 0, .int .i64 0, .int .i64 0, .slice none 0 0, .slice none 0 0]) ?_ 4 _ rfl; (with_reducible repeat (first | refine blk_drewN ?_ _ | refine blk_drew ?_ | refine blk_alloc ?_ _)); refine blk_put (cs := #[.int .i64 0, .int .i64 0, .int .i64 0, .int .i64 x154003_2, .slice none 0 0, .slice none 0 0]) ?_ 3 _ rfl; (with_reducible repeat (first | refine blk_drewN ?_ _ | refine blk_drew ?_ | refine blk_alloc ?_ _)); refine blk_put (cs := #[.int .i64 0, .int .i64 0, .int .i64 x154002_2, .int .i64 x154003_2, .slice none 0 0, .slice none 0 0]) ?_ 2 _ rfl; (with_reducible repeat (first | refine blk_drewN ?_ _ | refine blk_drew ?_ | refine blk_alloc ?_ _)); refine blk_put (cs := #[.int .i64 0, .int .i64 x154001_2, .int .i64 x154002_2, .int .i64 x154003_2, .slice none 0 0, .slice none 0 0]) ?_ 1 _ rfl; (with_reducible repeat (first | refine blk_drewN ?_ _ | refine blk_drew ?_ | refine blk_alloc ?_ _)); refine blk_put (cs := #[.int .i64 x154000_2, .int .i64 x154001_2, .int .i64 x154002_2, .int .i64 x154003_2, .slice none 0 0, .slice none 0 0]) ?_ 0 _ rfl; (with_reducible repeat (first | refine blk_drewN ?_ _ | refine blk_drew ?_ | refine blk_alloc ?_ _)); refine blk_far ?_ NB153_156.out _; (with_reducible repeat (first | refine blk_drewN ?_ _ | refine blk_drew ?_ | refine blk_alloc ?_ _)); exact BK153.out) Try.underlying27 rfl (by kernel_rfl)) rfl ?_
                                exact ⟨_, _, by first | rfl | (simp [errW_none, errW_some] <;> rfl) | (simp only [← hji19]; first | rfl | (simp [errW_none, errW_some] <;> rfl)) | (simp [*, errW_none, errW_some] <;> rfl), by first | exact Kd.R_nil _ _ _ _ _ | exact Kd.N_nil _ _ _ _ _ | exact Kd.V_nil _ _ _ _ _ | exact Kd.Q_nil _ _ _ _ _ | exact Kd.S_nil _ _ _ _ _, by first | exact Kd.R_nil _ _ _ _ _ | exact Kd.N_nil _ _ _ _ _ | exact Kd.V_nil _ _ _ _ _ | exact Kd.Q_nil _ _ _ _ _ | exact Kd.S_nil _ _ _ _ _, by repeat (first | (with_reducible first | exact HB.out | apply below_alloc | apply pw_below_drewN | apply below_drew1 | refine below_set ?_ GE153.out | refine below_set ?_ GE156.out) | exact HB.out)⟩
                            · rw [if_neg c45] at H
                              have c45b0 : ((bt t157 x31_2) == 99) = false := beq_eq_false_iff_ne.mpr c45
                              have c45b1 : ((bt t157 x31_2) != 99) = true := bne_iff_ne.mpr c45
                              by_cases c55 : (bt t157 x31_2) = 112
                              · rw [if_pos c55] at H
                                have c55b0 : ((bt t157 x31_2) == 112) = true := beq_iff_eq.mpr c55
                                have c55b1 : ((bt t157 x31_2) != 112) = false := bne_eq_false_iff_eq.mpr c55
                                clear c55
                                replace H := Option.bind_eq_some_iff.mp H
                                obtain ⟨⟨t165, t166⟩, A560, H⟩ := H
                                replace H : (if t166 = true then (console_told.l0 k2 l0 t157 (t157.size : Int) ji19 t155 x157001_2 x157002_2 x157003_2 t165 x157005_2) else (some (0, 0, 0, 0, ([] : List Int), ([] : List Int), false))) = some (r1, r2, r3, r4, r5, r6, r7) := H
                                have A56 := Aside0.mk A560
                                clear A560
                                by_cases c57 : t166 = true
                                · subst c57
                                  have H1 : (console_told.l0 k2 l0 t157 (t157.size : Int) ji19 t155 x157001_2 x157002_2 x157003_2 t165 x157005_2) = some (r1, r2, r3, r4, r5, r6, r7) := by rw [if_pos rfl] at H; exact H
                                  clear H
                                  have H := H1
                                  clear H1
                                  have H' := Aside0.mk H
                                  clear H
                                  have p158 : 0 ≤ ((ji19) : Int) := of_decide_eq_true (by first | (with_reducible assumption) | assumption)
                                  have q158 : (ji19) < (l0.length : Int) := of_decide_eq_true (by first | (with_reducible assumption) | assumption)
                                  obtain ⟨ad158, e158, hx158_0⟩ := Kd.at_string HR0.out (ji19) p158 q158
                                  obtain rfl : ad154 = ad158 := (by injection e158)
                                  replace hx158_0 := (HB.out.cell (World.block_lt_of_cell? w _ hx158_0)).trans hx158_0
                                  replace p158 := eq_true p158
                                  replace q158 := eq_true q158
                                  have p24 : 0 ≤ (x31_2 : Int) := of_decide_eq_true (by first | (with_reducible assumption) | assumption)
                                  have q24 : x31_2 < (t157.size : Int) := of_decide_eq_true (by first | (with_reducible assumption) | assumption)
                                  have hx24 := bt_at t157 x31_2
                                  replace p24 := eq_true p24
                                  replace q24 := eq_true q24
                                  go_wp2_with (first | ((with_reducible refine gate_callee (f := 97) rfl ?_); refine goesL_ (some 70) rfl rfl Try.func97 (by kernel_rfl) rfl #[.string (rdOf ByteArray.empty l0 (ji19))] rfl (by (try simp only [List.map_toArray, List.map_cons, List.map_nil]); first | done | (simp only [hji19]; rfl) | rfl | (simp only [List.length_drop, List.length_take]; rfl)) ?_; (with_reducible refine (console_bytes.calls (rdOf ByteArray.empty l0 (ji19)) t165 true _ A56.out).mono ?_); rintro e w58 ⟨v167, rfl, ho0, hb⟩; refine ⟨_, rfl, ?_⟩; have n0_ := Aside0.mk (Kd.R_elder' (by (with_reducible repeat (first | apply Kd.R_alloc | apply Kd.R_drewN | apply Kd.R_drew)); exact HO_157004.out) (Kd.R_base ho0) hb); have n1_ := Aside0.mk (Kd.R_elder' (by (with_reducible repeat (first | apply Kd.R_alloc | apply Kd.R_drewN | apply Kd.R_drew)); exact HO_157005.out) (Kd.R_base ho0) hb); have n2_ := Aside0.mk (Kd.R_lower (Kd.R_new' (Kd.R_new' ho0 (Kd.R_lt (by (with_reducible repeat (first | apply Kd.R_alloc | apply Kd.R_drewN | apply Kd.R_drew)); exact HO_157004.out))) (Kd.R_lt (by (with_reducible repeat (first | apply Kd.R_alloc | apply Kd.R_drewN | apply Kd.R_drew)); exact HO_157005.out))) (below_size (by repeat (first | (with_reducible first | exact HB.out | apply below_alloc | apply pw_below_drewN | apply below_drew1 | refine below_set ?_ GE153.out | refine below_set ?_ GE156.out) | exact HB.out)))); have n3_ := Aside0.mk (blk_below (g := gb153) (o := .cells #[.int .i64 x154000_2, .int .i64 x154001_2, .int .i64 x154002_2, .int .i64 x154003_2, .slice none 0 0, .slice none 0 0] 27 (0, 0)) (by (with_reducible repeat (first | refine blk_drewN ?_ _ | refine blk_drew ?_ | refine blk_alloc ?_ _)); exact BK153.out) hb); have n4_ := Aside0.mk (blk_below (g := gb156) (o := .cells #[.int .i64 t155, .int .i64 x157001_2, .int .i64 x157002_2, .int .i64 x157003_2, u157004, u157005] 27 (0, 0)) (by (with_reducible repeat (first | refine blk_drewN ?_ _ | refine blk_drew ?_ | refine blk_alloc ?_ _)); exact BK156.out) hb); have n5_ := Aside0.mk (below_step (by repeat (first | (with_reducible first | exact HB.out | apply below_alloc | apply pw_below_drewN | apply below_drew1 | refine below_set ?_ GE153.out | refine below_set ?_ GE156.out) | exact HB.out)) hb); clear HO_157004; clear HO_157005; clear BK153; clear BK156; clear HB; have HO_157004 := n0_; have HO_157005 := n1_; have HO168 := n2_; have BK153 := n3_; have BK156 := n4_; have HB := n5_; clear n0_ n1_ n2_ n3_ n4_ n5_; (try clear hb); (try clear hb2); (try clear hk); (try clear hi); (try clear ho0); obtain ⟨Ao59, co59, eo59⟩ := Kd.R_slice HO168.out; subst eo59; have hnb60 := NB156_153.out; have hnc60 := NB153_156.out; have hcz61_0 : w58.cell? ⟨gb156, 0, none⟩ = some (.int .i64 t155) := (blk_cell BK156.out 0).trans rfl; have hcz61_1 : w58.cell? ⟨gb156, 1, none⟩ = some (.int .i64 x157001_2) := (blk_cell BK156.out 1).trans rfl; have hcz61_2 : w58.cell? ⟨gb156, 2, none⟩ = some (.int .i64 x157002_2) := (blk_cell BK156.out 2).trans rfl; have hcz61_3 : w58.cell? ⟨gb156, 3, none⟩ = some (.int .i64 x157003_2) := (blk_cell BK156.out 3).trans rfl; have hcz61_4 : w58.cell? ⟨gb156, 4, none⟩ = some (u157004) := (blk_cell BK156.out 4).trans rfl; have hcz61_5 : w58.cell? ⟨gb156, 5, none⟩ = some (u157005) := (blk_cell BK156.out 5).trans rfl; have hfz61_0 := blk_frozen BK156.out 0; have hfz61_1 := blk_frozen BK156.out 1; have hfz61_2 := blk_frozen BK156.out 2; have hfz61_3 := blk_frozen BK156.out 3; have hfz61_4 := blk_frozen BK156.out 4; have hfz61_5 := blk_frozen BK156.out 5))
                                  go_roundg k2
                                  case measure => have := HJ4.out; have := HK2.out; omega
                                  case rel => exact ⟨(ji19), (x154000_2), (x154001_2), (x154002_2), (x154003_2), (x157001_2), (x157002_2), (x157003_2), (t165), (x157005_2), (.slice Ao59 t165.length co59), (u157005), (by first | rfl | (simp; done) | (simp only [← hji19] <;> (first | rfl | simp)) | (simp [*]; done)), H', ⟨by have := HJ4.out; have := HK2.out; omega⟩, ⟨by (with_reducible repeat (first | apply Kd.R_alloc | apply Kd.R_drewN | apply Kd.R_drew)); exact Kd.R_mono (Kd.R_far (p := ⟨gb156, 4, none⟩) (Kd.R_types HO168.out BK156.out (by decide)) (fun _ hk => by first | exact hk.2 | trivial) (.slice Ao59 t165.length co59)) (fun _ hk => hk.1.2)⟩, ⟨by (with_reducible repeat (first | apply Kd.R_alloc | apply Kd.R_drewN | apply Kd.R_drew)); exact Kd.R_mono (Kd.R_far (p := ⟨gb156, 4, none⟩) (Kd.R_types HO_157005.out BK156.out (by decide)) (fun _ hk => by first | exact hk.2 | trivial) (.slice Ao59 t165.length co59)) (fun _ hk => hk.1.2)⟩, ⟨by (with_reducible repeat (first | refine blk_drewN ?_ _ | refine blk_drew ?_ | refine blk_alloc ?_ _)); refine blk_far ?_ NB153_156.out _; (with_reducible repeat (first | refine blk_drewN ?_ _ | refine blk_drew ?_ | refine blk_alloc ?_ _)); exact BK153.out⟩, ⟨by (with_reducible repeat (first | refine blk_drewN ?_ _ | refine blk_drew ?_ | refine blk_alloc ?_ _)); refine blk_put (cs := #[.int .i64 t155, .int .i64 x157001_2, .int .i64 x157002_2, .int .i64 x157003_2, u157004, u157005]) ?_ 4 _ rfl; (with_reducible repeat (first | refine blk_drewN ?_ _ | refine blk_drew ?_ | refine blk_alloc ?_ _)); exact BK156.out⟩, ⟨by repeat (first | (with_reducible first | exact HB.out | apply below_alloc | apply pw_below_drewN | apply below_drew1 | refine below_set ?_ GE153.out | refine below_set ?_ GE156.out) | exact HB.out)⟩⟩
                                · replace c57 := Bool.eq_false_iff.mpr c57
                                  subst c57
                                  have H1 : (some (0, 0, 0, 0, ([] : List Int), ([] : List Int), false)) = some (r1, r2, r3, r4, r5, r6, r7) := by rw [if_neg (show ¬ (false = true) by decide)] at H; exact H
                                  clear H
                                  have H := H1
                                  clear H1
                                  simp only [Option.some.injEq, Prod.mk.injEq] at H
                                  obtain ⟨rfl, rfl, rfl, rfl, rfl, rfl, rfl⟩ := H
                                  have p158 : 0 ≤ ((ji19) : Int) := of_decide_eq_true (by first | (with_reducible assumption) | assumption)
                                  have q158 : (ji19) < (l0.length : Int) := of_decide_eq_true (by first | (with_reducible assumption) | assumption)
                                  obtain ⟨ad158, e158, hx158_0⟩ := Kd.at_string HR0.out (ji19) p158 q158
                                  obtain rfl : ad154 = ad158 := (by injection e158)
                                  replace hx158_0 := (HB.out.cell (World.block_lt_of_cell? w _ hx158_0)).trans hx158_0
                                  replace p158 := eq_true p158
                                  replace q158 := eq_true q158
                                  have p24 : 0 ≤ (x31_2 : Int) := of_decide_eq_true (by first | (with_reducible assumption) | assumption)
                                  have q24 : x31_2 < (t157.size : Int) := of_decide_eq_true (by first | (with_reducible assumption) | assumption)
                                  have hx24 := bt_at t157 x31_2
                                  replace p24 := eq_true p24
                                  replace q24 := eq_true q24
                                  go_wp2_with (first | ((with_reducible refine gate_callee (f := 97) rfl ?_); refine goesL_ (some 70) rfl rfl Try.func97 (by kernel_rfl) rfl #[.string (rdOf ByteArray.empty l0 (ji19))] rfl (by (try simp only [List.map_toArray, List.map_cons, List.map_nil]); first | done | (simp only [hji19]; rfl) | rfl | (simp only [List.length_drop, List.length_take]; rfl)) ?_; (with_reducible refine (console_bytes.calls (rdOf ByteArray.empty l0 (ji19)) t165 false _ A56.out).mono ?_); rintro e w62 ⟨v167, rfl, ho0, hb⟩; refine ⟨_, rfl, ?_⟩; have n0_ := Aside0.mk (Kd.R_elder' (by (with_reducible repeat (first | apply Kd.R_alloc | apply Kd.R_drewN | apply Kd.R_drew)); exact HO_157004.out) (Kd.R_base ho0) hb); have n1_ := Aside0.mk (Kd.R_elder' (by (with_reducible repeat (first | apply Kd.R_alloc | apply Kd.R_drewN | apply Kd.R_drew)); exact HO_157005.out) (Kd.R_base ho0) hb); have n2_ := Aside0.mk (Kd.R_lower (Kd.R_new' (Kd.R_new' ho0 (Kd.R_lt (by (with_reducible repeat (first | apply Kd.R_alloc | apply Kd.R_drewN | apply Kd.R_drew)); exact HO_157004.out))) (Kd.R_lt (by (with_reducible repeat (first | apply Kd.R_alloc | apply Kd.R_drewN | apply Kd.R_drew)); exact HO_157005.out))) (below_size (by repeat (first | (with_reducible first | exact HB.out | apply below_alloc | apply pw_below_drewN | apply below_drew1 | refine below_set ?_ GE153.out | refine below_set ?_ GE156.out) | exact HB.out)))); have n3_ := Aside0.mk (blk_below (g := gb153) (o := .cells #[.int .i64 x154000_2, .int .i64 x154001_2, .int .i64 x154002_2, .int .i64 x154003_2, .slice none 0 0, .slice none 0 0] 27 (0, 0)) (by (with_reducible repeat (first | refine blk_drewN ?_ _ | refine blk_drew ?_ | refine blk_alloc ?_ _)); exact BK153.out) hb); have n4_ := Aside0.mk (blk_below (g := gb156) (o := .cells #[.int .i64 t155, .int .i64 x157001_2, .int .i64 x157002_2, .int .i64 x157003_2, u157004, u157005] 27 (0, 0)) (by (with_reducible repeat (first | refine blk_drewN ?_ _ | refine blk_drew ?_ | refine blk_alloc ?_ _)); exact BK156.out) hb); have n5_ := Aside0.mk (below_step (by repeat (first | (with_reducible first | exact HB.out | apply below_alloc | apply pw_below_drewN | apply below_drew1 | refine below_set ?_ GE153.out | refine below_set ?_ GE156.out) | exact HB.out)) hb); clear HO_157004; clear HO_157005; clear BK153; clear BK156; clear HB; have HO_157004 := n0_; have HO_157005 := n1_; have HO168 := n2_; have BK153 := n3_; have BK156 := n4_; have HB := n5_; clear n0_ n1_ n2_ n3_ n4_ n5_; (try clear hb); (try clear hb2); (try clear hk); (try clear hi); (try clear ho0); obtain ⟨Ao63, co63, eo63⟩ := Kd.R_slice HO168.out; subst eo63; have hnb64 := NB156_153.out; have hnc64 := NB153_156.out; have hcz65_0 : w62.cell? ⟨gb156, 0, none⟩ = some (.int .i64 t155) := (blk_cell BK156.out 0).trans rfl; have hcz65_1 : w62.cell? ⟨gb156, 1, none⟩ = some (.int .i64 x157001_2) := (blk_cell BK156.out 1).trans rfl; have hcz65_2 : w62.cell? ⟨gb156, 2, none⟩ = some (.int .i64 x157002_2) := (blk_cell BK156.out 2).trans rfl; have hcz65_3 : w62.cell? ⟨gb156, 3, none⟩ = some (.int .i64 x157003_2) := (blk_cell BK156.out 3).trans rfl; have hcz65_4 : w62.cell? ⟨gb156, 4, none⟩ = some (u157004) := (blk_cell BK156.out 4).trans rfl; have hcz65_5 : w62.cell? ⟨gb156, 5, none⟩ = some (u157005) := (blk_cell BK156.out 5).trans rfl; have hfz65_0 := blk_frozen BK156.out 0; have hfz65_1 := blk_frozen BK156.out 1; have hfz65_2 := blk_frozen BK156.out 2; have hfz65_3 := blk_frozen BK156.out 3; have hfz65_4 := blk_frozen BK156.out 4; have hfz65_5 := blk_frozen BK156.out 5; have hcz66_0 : w62.cell? ⟨gb153, 0, none⟩ = some (.int .i64 x154000_2) := (blk_cell BK153.out 0).trans rfl; have hcz66_1 : w62.cell? ⟨gb153, 1, none⟩ = some (.int .i64 x154001_2) := (blk_cell BK153.out 1).trans rfl; have hcz66_2 : w62.cell? ⟨gb153, 2, none⟩ = some (.int .i64 x154002_2) := (blk_cell BK153.out 2).trans rfl; have hcz66_3 : w62.cell? ⟨gb153, 3, none⟩ = some (.int .i64 x154003_2) := (blk_cell BK153.out 3).trans rfl; have hcz66_4 : w62.cell? ⟨gb153, 4, none⟩ = some (.slice none 0 0) := (blk_cell BK153.out 4).trans rfl; have hcz66_5 : w62.cell? ⟨gb153, 5, none⟩ = some (.slice none 0 0) := (blk_cell BK153.out 5).trans rfl; have hfz66_0 := blk_frozen BK153.out 0; have hfz66_1 := blk_frozen BK153.out 1; have hfz66_2 := blk_frozen BK153.out 2; have hfz66_3 := blk_frozen BK153.out 3; have hfz66_4 := blk_frozen BK153.out 4; have hfz66_5 := blk_frozen BK153.out 5))
                                  refine bodyPost_ret (results_ct rfl _ _ gb153 27 #[.int .i64 0, .int .i64 0, .int .i64 0, .int .i64 0, .slice none 0 0, .slice none 0 0] (0, 0) _ rfl (by (with_reducible repeat (first | refine blk_drewN ?_ _ | refine blk_drew ?_ | refine blk_alloc ?_ _)); refine blk_put (cs := #[.int .i64 0, .int .i64 0, .int .i64 0, .int .i64 0, .slice none 0 0, .slice none 0 0]) ?_ 5 _ rfl; (with_reducible repeat (first | refine blk_drewN ?_ _ | refine blk_drew ?_ | refine blk_alloc ?_ _)); refine blk_put (cs := #[.int .i64 0, .int .i64 0, .int .i64 0, .int .i64 0, .slice none 0 0, .slice none 0 0]) ?_ 4 _ rfl; (with_reducible repeat (first | refine blk_drewN ?_ _ | refine blk_drew ?_ | refine blk_alloc ?_ _)); refine blk_put (cs := #[.int .i64 0, .int .i64 0, .int .i64 0, .int .i64 x154003_2, .slice none 0 0, .slice none 0 0]) ?_ 3 _ rfl; (with_reducible repeat (first | refine blk_drewN ?_ _ | refine blk_drew ?_ | refine blk_alloc ?_ _)); refine blk_put (cs := #[.int .i64 0, .int .i64 0, .int .i64 x154002_2, .int .i64 x154003_2, .slice none 0 0, .slice none 0 0]) ?_ 2 _ rfl; (with_reducible repeat (first | refine blk_drewN ?_ _ | refine blk_drew ?_ | refine blk_alloc ?_ _)); refine blk_put (cs := #[.int .i64 0, .int .i64 x154001_2, .int .i64 x154002_2, .int .i64 x154003_2, .slice none 0 0, .slice none 0 0]) ?_ 1 _ rfl; (with_reducible repeat (first | refine blk_drewN ?_ _ | refine blk_drew ?_ | refine blk_alloc ?_ _)); refine blk_put (cs := #[.int .i64 x154000_2, .int .i64 x154001_2, .int .i64 x154002_2, .int .i64 x154003_2, .slice none 0 0, .slice none 0 0]) ?_ 0 _ rfl; (with_reducible repeat (first | refine blk_drewN ?_ _ | refine blk_drew ?_ | refine blk_alloc ?_ _)); refine blk_far ?_ NB153_156.out _; (with_reducible repeat (first | refine blk_drewN ?_ _ | refine blk_drew ?_ | refine blk_alloc ?_ _)); exact BK153.out) Try.underlying27 rfl (by kernel_rfl)) rfl ?_
                                  exact ⟨_, _, by first | rfl | (simp [errW_none, errW_some] <;> rfl) | (simp only [← hji19]; first | rfl | (simp [errW_none, errW_some] <;> rfl)) | (simp [*, errW_none, errW_some] <;> rfl), by first | exact Kd.R_nil _ _ _ _ _ | exact Kd.N_nil _ _ _ _ _ | exact Kd.V_nil _ _ _ _ _ | exact Kd.Q_nil _ _ _ _ _ | exact Kd.S_nil _ _ _ _ _, by first | exact Kd.R_nil _ _ _ _ _ | exact Kd.N_nil _ _ _ _ _ | exact Kd.V_nil _ _ _ _ _ | exact Kd.Q_nil _ _ _ _ _ | exact Kd.S_nil _ _ _ _ _, by repeat (first | (with_reducible first | exact HB.out | apply below_alloc | apply pw_below_drewN | apply below_drew1 | refine below_set ?_ GE153.out | refine below_set ?_ GE156.out) | exact HB.out)⟩
                              · rw [if_neg c55] at H
                                have c55b0 : ((bt t157 x31_2) == 112) = false := beq_eq_false_iff_ne.mpr c55
                                have c55b1 : ((bt t157 x31_2) != 112) = true := bne_iff_ne.mpr c55
                                by_cases c67 : (bt t157 x31_2) = 100
                                · rw [if_pos c67] at H
                                  have c67b0 : ((bt t157 x31_2) == 100) = true := beq_iff_eq.mpr c67
                                  have c67b1 : ((bt t157 x31_2) != 100) = false := bne_eq_false_iff_eq.mpr c67
                                  clear c67
                                  replace H := Option.bind_eq_some_iff.mp H
                                  obtain ⟨⟨t169, t170⟩, A680, H⟩ := H
                                  replace H : (if t170 = true then (console_told.l0 k2 l0 t157 (t157.size : Int) ji19 t155 x157001_2 x157002_2 x157003_2 x157004_2 t169) else (some (0, 0, 0, 0, ([] : List Int), ([] : List Int), false))) = some (r1, r2, r3, r4, r5, r6, r7) := H
                                  have A68 := Aside0.mk A680
                                  clear A680
                                  by_cases c69 : t170 = true
                                  · subst c69
                                    have H1 : (console_told.l0 k2 l0 t157 (t157.size : Int) ji19 t155 x157001_2 x157002_2 x157003_2 x157004_2 t169) = some (r1, r2, r3, r4, r5, r6, r7) := by rw [if_pos rfl] at H; exact H
                                    clear H
                                    have H := H1
                                    clear H1
                                    have H' := Aside0.mk H
                                    clear H
                                    have p158 : 0 ≤ ((ji19) : Int) := of_decide_eq_true (by first | (with_reducible assumption) | assumption)
                                    have q158 : (ji19) < (l0.length : Int) := of_decide_eq_true (by first | (with_reducible assumption) | assumption)
                                    obtain ⟨ad158, e158, hx158_0⟩ := Kd.at_string HR0.out (ji19) p158 q158
                                    obtain rfl : ad154 = ad158 := (by injection e158)
                                    replace hx158_0 := (HB.out.cell (World.block_lt_of_cell? w _ hx158_0)).trans hx158_0
                                    replace p158 := eq_true p158
                                    replace q158 := eq_true q158
                                    have p24 : 0 ≤ (x31_2 : Int) := of_decide_eq_true (by first | (with_reducible assumption) | assumption)
                                    have q24 : x31_2 < (t157.size : Int) := of_decide_eq_true (by first | (with_reducible assumption) | assumption)
                                    have hx24 := bt_at t157 x31_2
                                    replace p24 := eq_true p24
                                    replace q24 := eq_true q24
                                    go_wp2_with (first | ((with_reducible refine gate_callee (f := 97) rfl ?_); refine goesL_ (some 78) rfl rfl Try.func97 (by kernel_rfl) rfl #[.string (rdOf ByteArray.empty l0 (ji19))] rfl (by (try simp only [List.map_toArray, List.map_cons, List.map_nil]); first | done | (simp only [hji19]; rfl) | rfl | (simp only [List.length_drop, List.length_take]; rfl)) ?_; (with_reducible refine (console_bytes.calls (rdOf ByteArray.empty l0 (ji19)) t169 true _ A68.out).mono ?_); rintro e w70 ⟨v171, rfl, ho0, hb⟩; refine ⟨_, rfl, ?_⟩; have n0_ := Aside0.mk (Kd.R_elder' (by (with_reducible repeat (first | apply Kd.R_alloc | apply Kd.R_drewN | apply Kd.R_drew)); exact HO_157004.out) (Kd.R_base ho0) hb); have n1_ := Aside0.mk (Kd.R_elder' (by (with_reducible repeat (first | apply Kd.R_alloc | apply Kd.R_drewN | apply Kd.R_drew)); exact HO_157005.out) (Kd.R_base ho0) hb); have n2_ := Aside0.mk (Kd.R_lower (Kd.R_new' (Kd.R_new' ho0 (Kd.R_lt (by (with_reducible repeat (first | apply Kd.R_alloc | apply Kd.R_drewN | apply Kd.R_drew)); exact HO_157004.out))) (Kd.R_lt (by (with_reducible repeat (first | apply Kd.R_alloc | apply Kd.R_drewN | apply Kd.R_drew)); exact HO_157005.out))) (below_size (by repeat (first | (with_reducible first | exact HB.out | apply below_alloc | apply pw_below_drewN | apply below_drew1 | refine below_set ?_ GE153.out | refine below_set ?_ GE156.out) | exact HB.out)))); have n3_ := Aside0.mk (blk_below (g := gb153) (o := .cells #[.int .i64 x154000_2, .int .i64 x154001_2, .int .i64 x154002_2, .int .i64 x154003_2, .slice none 0 0, .slice none 0 0] 27 (0, 0)) (by (with_reducible repeat (first | refine blk_drewN ?_ _ | refine blk_drew ?_ | refine blk_alloc ?_ _)); exact BK153.out) hb); have n4_ := Aside0.mk (blk_below (g := gb156) (o := .cells #[.int .i64 t155, .int .i64 x157001_2, .int .i64 x157002_2, .int .i64 x157003_2, u157004, u157005] 27 (0, 0)) (by (with_reducible repeat (first | refine blk_drewN ?_ _ | refine blk_drew ?_ | refine blk_alloc ?_ _)); exact BK156.out) hb); have n5_ := Aside0.mk (below_step (by repeat (first | (with_reducible first | exact HB.out | apply below_alloc | apply pw_below_drewN | apply below_drew1 | refine below_set ?_ GE153.out | refine below_set ?_ GE156.out) | exact HB.out)) hb); clear HO_157004; clear HO_157005; clear BK153; clear BK156; clear HB; have HO_157004 := n0_; have HO_157005 := n1_; have HO172 := n2_; have BK153 := n3_; have BK156 := n4_; have HB := n5_; clear n0_ n1_ n2_ n3_ n4_ n5_; (try clear hb); (try clear hb2); (try clear hk); (try clear hi); (try clear ho0); obtain ⟨Ao71, co71, eo71⟩ := Kd.R_slice HO172.out; subst eo71; have hnb72 := NB156_153.out; have hnc72 := NB153_156.out; have hcz73_0 : w70.cell? ⟨gb156, 0, none⟩ = some (.int .i64 t155) := (blk_cell BK156.out 0).trans rfl; have hcz73_1 : w70.cell? ⟨gb156, 1, none⟩ = some (.int .i64 x157001_2) := (blk_cell BK156.out 1).trans rfl; have hcz73_2 : w70.cell? ⟨gb156, 2, none⟩ = some (.int .i64 x157002_2) := (blk_cell BK156.out 2).trans rfl; have hcz73_3 : w70.cell? ⟨gb156, 3, none⟩ = some (.int .i64 x157003_2) := (blk_cell BK156.out 3).trans rfl; have hcz73_4 : w70.cell? ⟨gb156, 4, none⟩ = some (u157004) := (blk_cell BK156.out 4).trans rfl; have hcz73_5 : w70.cell? ⟨gb156, 5, none⟩ = some (u157005) := (blk_cell BK156.out 5).trans rfl; have hfz73_0 := blk_frozen BK156.out 0; have hfz73_1 := blk_frozen BK156.out 1; have hfz73_2 := blk_frozen BK156.out 2; have hfz73_3 := blk_frozen BK156.out 3; have hfz73_4 := blk_frozen BK156.out 4; have hfz73_5 := blk_frozen BK156.out 5))
                                    go_roundg k2
                                    case measure => have := HJ4.out; have := HK2.out; omega
                                    case rel => exact ⟨(ji19), (x154000_2), (x154001_2), (x154002_2), (x154003_2), (x157001_2), (x157002_2), (x157003_2), (x157004_2), (t169), (u157004), (.slice Ao71 t169.length co71), (by first | rfl | (simp; done) | (simp only [← hji19] <;> (first | rfl | simp)) | (simp [*]; done)), H', ⟨by have := HJ4.out; have := HK2.out; omega⟩, ⟨by (with_reducible repeat (first | apply Kd.R_alloc | apply Kd.R_drewN | apply Kd.R_drew)); exact Kd.R_mono (Kd.R_far (p := ⟨gb156, 5, none⟩) (Kd.R_types HO_157004.out BK156.out (by decide)) (fun _ hk => by first | exact hk.2 | trivial) (.slice Ao71 t169.length co71)) (fun _ hk => hk.1.2)⟩, ⟨by (with_reducible repeat (first | apply Kd.R_alloc | apply Kd.R_drewN | apply Kd.R_drew)); exact Kd.R_mono (Kd.R_far (p := ⟨gb156, 5, none⟩) (Kd.R_types HO172.out BK156.out (by decide)) (fun _ hk => by first | exact hk.2 | trivial) (.slice Ao71 t169.length co71)) (fun _ hk => hk.1.1.2)⟩, ⟨by (with_reducible repeat (first | refine blk_drewN ?_ _ | refine blk_drew ?_ | refine blk_alloc ?_ _)); refine blk_far ?_ NB153_156.out _; (with_reducible repeat (first | refine blk_drewN ?_ _ | refine blk_drew ?_ | refine blk_alloc ?_ _)); exact BK153.out⟩, ⟨by (with_reducible repeat (first | refine blk_drewN ?_ _ | refine blk_drew ?_ | refine blk_alloc ?_ _)); refine blk_put (cs := #[.int .i64 t155, .int .i64 x157001_2, .int .i64 x157002_2, .int .i64 x157003_2, u157004, u157005]) ?_ 5 _ rfl; (with_reducible repeat (first | refine blk_drewN ?_ _ | refine blk_drew ?_ | refine blk_alloc ?_ _)); exact BK156.out⟩, ⟨by repeat (first | (with_reducible first | exact HB.out | apply below_alloc | apply pw_below_drewN | apply below_drew1 | refine below_set ?_ GE153.out | refine below_set ?_ GE156.out) | exact HB.out)⟩⟩
                                  · replace c69 := Bool.eq_false_iff.mpr c69
                                    subst c69
                                    have H1 : (some (0, 0, 0, 0, ([] : List Int), ([] : List Int), false)) = some (r1, r2, r3, r4, r5, r6, r7) := by rw [if_neg (show ¬ (false = true) by decide)] at H; exact H
                                    clear H
                                    have H := H1
                                    clear H1
                                    simp only [Option.some.injEq, Prod.mk.injEq] at H
                                    obtain ⟨rfl, rfl, rfl, rfl, rfl, rfl, rfl⟩ := H
                                    have p158 : 0 ≤ ((ji19) : Int) := of_decide_eq_true (by first | (with_reducible assumption) | assumption)
                                    have q158 : (ji19) < (l0.length : Int) := of_decide_eq_true (by first | (with_reducible assumption) | assumption)
                                    obtain ⟨ad158, e158, hx158_0⟩ := Kd.at_string HR0.out (ji19) p158 q158
                                    obtain rfl : ad154 = ad158 := (by injection e158)
                                    replace hx158_0 := (HB.out.cell (World.block_lt_of_cell? w _ hx158_0)).trans hx158_0
                                    replace p158 := eq_true p158
                                    replace q158 := eq_true q158
                                    have p24 : 0 ≤ (x31_2 : Int) := of_decide_eq_true (by first | (with_reducible assumption) | assumption)
                                    have q24 : x31_2 < (t157.size : Int) := of_decide_eq_true (by first | (with_reducible assumption) | assumption)
                                    have hx24 := bt_at t157 x31_2
                                    replace p24 := eq_true p24
                                    replace q24 := eq_true q24
                                    go_wp2_with (first | ((with_reducible refine gate_callee (f := 97) rfl ?_); refine goesL_ (some 78) rfl rfl Try.func97 (by kernel_rfl) rfl #[.string (rdOf ByteArray.empty l0 (ji19))] rfl (by (try simp only [List.map_toArray, List.map_cons, List.map_nil]); first | done | (simp only [hji19]; rfl) | rfl | (simp only [List.length_drop, List.length_take]; rfl)) ?_; (with_reducible refine (console_bytes.calls (rdOf ByteArray.empty l0 (ji19)) t169 false _ A68.out).mono ?_); rintro e w74 ⟨v171, rfl, ho0, hb⟩; refine ⟨_, rfl, ?_⟩; have n0_ := Aside0.mk (Kd.R_elder' (by (with_reducible repeat (first | apply Kd.R_alloc | apply Kd.R_drewN | apply Kd.R_drew)); exact HO_157004.out) (Kd.R_base ho0) hb); have n1_ := Aside0.mk (Kd.R_elder' (by (with_reducible repeat (first | apply Kd.R_alloc | apply Kd.R_drewN | apply Kd.R_drew)); exact HO_157005.out) (Kd.R_base ho0) hb); have n2_ := Aside0.mk (Kd.R_lower (Kd.R_new' (Kd.R_new' ho0 (Kd.R_lt (by (with_reducible repeat (first | apply Kd.R_alloc | apply Kd.R_drewN | apply Kd.R_drew)); exact HO_157004.out))) (Kd.R_lt (by (with_reducible repeat (first | apply Kd.R_alloc | apply Kd.R_drewN | apply Kd.R_drew)); exact HO_157005.out))) (below_size (by repeat (first | (with_reducible first | exact HB.out | apply below_alloc | apply pw_below_drewN | apply below_drew1 | refine below_set ?_ GE153.out | refine below_set ?_ GE156.out) | exact HB.out)))); have n3_ := Aside0.mk (blk_below (g := gb153) (o := .cells #[.int .i64 x154000_2, .int .i64 x154001_2, .int .i64 x154002_2, .int .i64 x154003_2, .slice none 0 0, .slice none 0 0] 27 (0, 0)) (by (with_reducible repeat (first | refine blk_drewN ?_ _ | refine blk_drew ?_ | refine blk_alloc ?_ _)); exact BK153.out) hb); have n4_ := Aside0.mk (blk_below (g := gb156) (o := .cells #[.int .i64 t155, .int .i64 x157001_2, .int .i64 x157002_2, .int .i64 x157003_2, u157004, u157005] 27 (0, 0)) (by (with_reducible repeat (first | refine blk_drewN ?_ _ | refine blk_drew ?_ | refine blk_alloc ?_ _)); exact BK156.out) hb); have n5_ := Aside0.mk (below_step (by repeat (first | (with_reducible first | exact HB.out | apply below_alloc | apply pw_below_drewN | apply below_drew1 | refine below_set ?_ GE153.out | refine below_set ?_ GE156.out) | exact HB.out)) hb); clear HO_157004; clear HO_157005; clear BK153; clear BK156; clear HB; have HO_157004 := n0_; have HO_157005 := n1_; have HO172 := n2_; have BK153 := n3_; have BK156 := n4_; have HB := n5_; clear n0_ n1_ n2_ n3_ n4_ n5_; (try clear hb); (try clear hb2); (try clear hk); (try clear hi); (try clear ho0); obtain ⟨Ao75, co75, eo75⟩ := Kd.R_slice HO172.out; subst eo75; have hnb76 := NB156_153.out; have hnc76 := NB153_156.out; have hcz77_0 : w74.cell? ⟨gb156, 0, none⟩ = some (.int .i64 t155) := (blk_cell BK156.out 0).trans rfl; have hcz77_1 : w74.cell? ⟨gb156, 1, none⟩ = some (.int .i64 x157001_2) := (blk_cell BK156.out 1).trans rfl; have hcz77_2 : w74.cell? ⟨gb156, 2, none⟩ = some (.int .i64 x157002_2) := (blk_cell BK156.out 2).trans rfl; have hcz77_3 : w74.cell? ⟨gb156, 3, none⟩ = some (.int .i64 x157003_2) := (blk_cell BK156.out 3).trans rfl; have hcz77_4 : w74.cell? ⟨gb156, 4, none⟩ = some (u157004) := (blk_cell BK156.out 4).trans rfl; have hcz77_5 : w74.cell? ⟨gb156, 5, none⟩ = some (u157005) := (blk_cell BK156.out 5).trans rfl; have hfz77_0 := blk_frozen BK156.out 0; have hfz77_1 := blk_frozen BK156.out 1; have hfz77_2 := blk_frozen BK156.out 2; have hfz77_3 := blk_frozen BK156.out 3; have hfz77_4 := blk_frozen BK156.out 4; have hfz77_5 := blk_frozen BK156.out 5; have hcz78_0 : w74.cell? ⟨gb153, 0, none⟩ = some (.int .i64 x154000_2) := (blk_cell BK153.out 0).trans rfl; have hcz78_1 : w74.cell? ⟨gb153, 1, none⟩ = some (.int .i64 x154001_2) := (blk_cell BK153.out 1).trans rfl; have hcz78_2 : w74.cell? ⟨gb153, 2, none⟩ = some (.int .i64 x154002_2) := (blk_cell BK153.out 2).trans rfl; have hcz78_3 : w74.cell? ⟨gb153, 3, none⟩ = some (.int .i64 x154003_2) := (blk_cell BK153.out 3).trans rfl; have hcz78_4 : w74.cell? ⟨gb153, 4, none⟩ = some (.slice none 0 0) := (blk_cell BK153.out 4).trans rfl; have hcz78_5 : w74.cell? ⟨gb153, 5, none⟩ = some (.slice none 0 0) := (blk_cell BK153.out 5).trans rfl; have hfz78_0 := blk_frozen BK153.out 0; have hfz78_1 := blk_frozen BK153.out 1; have hfz78_2 := blk_frozen BK153.out 2; have hfz78_3 := blk_frozen BK153.out 3; have hfz78_4 := blk_frozen BK153.out 4; have hfz78_5 := blk_frozen BK153.out 5))
                                    refine bodyPost_ret (results_ct rfl _ _ gb153 27 #[.int .i64 0, .int .i64 0, .int .i64 0, .int .i64 0, .slice none 0 0, .slice none 0 0] (0, 0) _ rfl (by (with_reducible repeat (first | refine blk_drewN ?_ _ | refine blk_drew ?_ | refine blk_alloc ?_ _)); refine blk_put (cs := #[.int .i64 0, .int .i64 0, .int .i64 0, .int .i64 0, .slice none 0 0, .slice none 0 0]) ?_ 5 _ rfl; (with_reducible repeat (first | refine blk_drewN ?_ _ | refine blk_drew ?_ | refine blk_alloc ?_ _)); refine blk_put (cs := #[.int .i64 0, .int .i64 0, .int .i64 0, .int .i64 0, .slice none 0 0, .slice none 0 0]) ?_ 4 _ rfl; (with_reducible repeat (first | refine blk_drewN ?_ _ | refine blk_drew ?_ | refine blk_alloc ?_ _)); refine blk_put (cs := #[.int .i64 0, .int .i64 0, .int .i64 0, .int .i64 x154003_2, .slice none 0 0, .slice none 0 0]) ?_ 3 _ rfl; (with_reducible repeat (first | refine blk_drewN ?_ _ | refine blk_drew ?_ | refine blk_alloc ?_ _)); refine blk_put (cs := #[.int .i64 0, .int .i64 0, .int .i64 x154002_2, .int .i64 x154003_2, .slice none 0 0, .slice none 0 0]) ?_ 2 _ rfl; (with_reducible repeat (first | refine blk_drewN ?_ _ | refine blk_drew ?_ | refine blk_alloc ?_ _)); refine blk_put (cs := #[.int .i64 0, .int .i64 x154001_2, .int .i64 x154002_2, .int .i64 x154003_2, .slice none 0 0, .slice none 0 0]) ?_ 1 _ rfl; (with_reducible repeat (first | refine blk_drewN ?_ _ | refine blk_drew ?_ | refine blk_alloc ?_ _)); refine blk_put (cs := #[.int .i64 x154000_2, .int .i64 x154001_2, .int .i64 x154002_2, .int .i64 x154003_2, .slice none 0 0, .slice none 0 0]) ?_ 0 _ rfl; (with_reducible repeat (first | refine blk_drewN ?_ _ | refine blk_drew ?_ | refine blk_alloc ?_ _)); refine blk_far ?_ NB153_156.out _; (with_reducible repeat (first | refine blk_drewN ?_ _ | refine blk_drew ?_ | refine blk_alloc ?_ _)); exact BK153.out) Try.underlying27 rfl (by kernel_rfl)) rfl ?_
                                    exact ⟨_, _, by first | rfl | (simp [errW_none, errW_some] <;> rfl) | (simp only [← hji19]; first | rfl | (simp [errW_none, errW_some] <;> rfl)) | (simp [*, errW_none, errW_some] <;> rfl), by first | exact Kd.R_nil _ _ _ _ _ | exact Kd.N_nil _ _ _ _ _ | exact Kd.V_nil _ _ _ _ _ | exact Kd.Q_nil _ _ _ _ _ | exact Kd.S_nil _ _ _ _ _, by first | exact Kd.R_nil _ _ _ _ _ | exact Kd.N_nil _ _ _ _ _ | exact Kd.V_nil _ _ _ _ _ | exact Kd.Q_nil _ _ _ _ _ | exact Kd.S_nil _ _ _ _ _, by repeat (first | (with_reducible first | exact HB.out | apply below_alloc | apply pw_below_drewN | apply below_drew1 | refine below_set ?_ GE153.out | refine below_set ?_ GE156.out) | exact HB.out)⟩
                                · rw [if_neg c67] at H
                                  have c67b0 : ((bt t157 x31_2) == 100) = false := beq_eq_false_iff_ne.mpr c67
                                  have c67b1 : ((bt t157 x31_2) != 100) = true := bne_iff_ne.mpr c67
                                  simp only [Option.some.injEq, Prod.mk.injEq] at H
                                  obtain ⟨rfl, rfl, rfl, rfl, rfl, rfl, rfl⟩ := H
                                  have p158 : 0 ≤ ((ji19) : Int) := of_decide_eq_true (by first | (with_reducible assumption) | assumption)
                                  have q158 : (ji19) < (l0.length : Int) := of_decide_eq_true (by first | (with_reducible assumption) | assumption)
                                  obtain ⟨ad158, e158, hx158_0⟩ := Kd.at_string HR0.out (ji19) p158 q158
                                  obtain rfl : ad154 = ad158 := (by injection e158)
                                  replace hx158_0 := (HB.out.cell (World.block_lt_of_cell? w _ hx158_0)).trans hx158_0
                                  replace p158 := eq_true p158
                                  replace q158 := eq_true q158
                                  have p24 : 0 ≤ (x31_2 : Int) := of_decide_eq_true (by first | (with_reducible assumption) | assumption)
                                  have q24 : x31_2 < (t157.size : Int) := of_decide_eq_true (by first | (with_reducible assumption) | assumption)
                                  have hx24 := bt_at t157 x31_2
                                  replace p24 := eq_true p24
                                  replace q24 := eq_true q24
                                  have hnb79 := NB153_156.out
                                  have hnc79 := NB156_153.out
                                  have hcz80_0 : wr.cell? ⟨gb153, 0, none⟩ = some (.int .i64 x154000_2) := (blk_cell BK153.out 0).trans rfl
                                  have hcz80_1 : wr.cell? ⟨gb153, 1, none⟩ = some (.int .i64 x154001_2) := (blk_cell BK153.out 1).trans rfl
                                  have hcz80_2 : wr.cell? ⟨gb153, 2, none⟩ = some (.int .i64 x154002_2) := (blk_cell BK153.out 2).trans rfl
                                  have hcz80_3 : wr.cell? ⟨gb153, 3, none⟩ = some (.int .i64 x154003_2) := (blk_cell BK153.out 3).trans rfl
                                  have hcz80_4 : wr.cell? ⟨gb153, 4, none⟩ = some (.slice none 0 0) := (blk_cell BK153.out 4).trans rfl
                                  have hcz80_5 : wr.cell? ⟨gb153, 5, none⟩ = some (.slice none 0 0) := (blk_cell BK153.out 5).trans rfl
                                  have hfz80_0 := blk_frozen BK153.out 0
                                  have hfz80_1 := blk_frozen BK153.out 1
                                  have hfz80_2 := blk_frozen BK153.out 2
                                  have hfz80_3 := blk_frozen BK153.out 3
                                  have hfz80_4 := blk_frozen BK153.out 4
                                  have hfz80_5 := blk_frozen BK153.out 5
                                  go_wp2
                                  refine bodyPost_ret (results_ct rfl _ _ gb153 27 #[.int .i64 0, .int .i64 0, .int .i64 0, .int .i64 0, .slice none 0 0, .slice none 0 0] (0, 0) _ rfl (by (with_reducible repeat (first | refine blk_drewN ?_ _ | refine blk_drew ?_ | refine blk_alloc ?_ _)); refine blk_put (cs := #[.int .i64 0, .int .i64 0, .int .i64 0, .int .i64 0, .slice none 0 0, .slice none 0 0]) ?_ 5 _ rfl; (with_reducible repeat (first | refine blk_drewN ?_ _ | refine blk_drew ?_ | refine blk_alloc ?_ _)); refine blk_put (cs := #[.int .i64 0, .int .i64 0, .int .i64 0, .int .i64 0, .slice none 0 0, .slice none 0 0]) ?_ 4 _ rfl; (with_reducible repeat (first | refine blk_drewN ?_ _ | refine blk_drew ?_ | refine blk_alloc ?_ _)); refine blk_put (cs := #[.int .i64 0, .int .i64 0, .int .i64 0, .int .i64 x154003_2, .slice none 0 0, .slice none 0 0]) ?_ 3 _ rfl; (with_reducible repeat (first | refine blk_drewN ?_ _ | refine blk_drew ?_ | refine blk_alloc ?_ _)); refine blk_put (cs := #[.int .i64 0, .int .i64 0, .int .i64 x154002_2, .int .i64 x154003_2, .slice none 0 0, .slice none 0 0]) ?_ 2 _ rfl; (with_reducible repeat (first | refine blk_drewN ?_ _ | refine blk_drew ?_ | refine blk_alloc ?_ _)); refine blk_put (cs := #[.int .i64 0, .int .i64 x154001_2, .int .i64 x154002_2, .int .i64 x154003_2, .slice none 0 0, .slice none 0 0]) ?_ 1 _ rfl; (with_reducible repeat (first | refine blk_drewN ?_ _ | refine blk_drew ?_ | refine blk_alloc ?_ _)); refine blk_put (cs := #[.int .i64 x154000_2, .int .i64 x154001_2, .int .i64 x154002_2, .int .i64 x154003_2, .slice none 0 0, .slice none 0 0]) ?_ 0 _ rfl; (with_reducible repeat (first | refine blk_drewN ?_ _ | refine blk_drew ?_ | refine blk_alloc ?_ _)); exact BK153.out) Try.underlying27 rfl (by kernel_rfl)) rfl ?_
                                  exact ⟨_, _, by first | rfl | (simp [errW_none, errW_some] <;> rfl) | (simp only [← hji19]; first | rfl | (simp [errW_none, errW_some] <;> rfl)) | (simp [*, errW_none, errW_some] <;> rfl), by first | exact Kd.R_nil _ _ _ _ _ | exact Kd.N_nil _ _ _ _ _ | exact Kd.V_nil _ _ _ _ _ | exact Kd.Q_nil _ _ _ _ _ | exact Kd.S_nil _ _ _ _ _, by first | exact Kd.R_nil _ _ _ _ _ | exact Kd.N_nil _ _ _ _ _ | exact Kd.V_nil _ _ _ _ _ | exact Kd.Q_nil _ _ _ _ _ | exact Kd.S_nil _ _ _ _ _, by repeat (first | (with_reducible first | exact HB.out | apply below_alloc | apply pw_below_drewN | apply below_drew1 | refine below_set ?_ GE153.out | refine below_set ?_ GE156.out) | exact HB.out)⟩
                      · rw [if_neg c23] at H
                        exact absurd H (by simp)
                    · rw [if_neg c22] at H
                      exact absurd H (by simp)
                  · rw [if_neg c21] at H
                    exact absurd H (by simp)
                · rw [if_neg c20] at H
                  exact absurd H (by simp)
              · rw [if_neg c18] at H
                have c18b0 : decide (x31_2 < (t157.size : Int)) = false := decide_eq_false c18
                clear c18
                simp only [Option.some.injEq, Prod.mk.injEq] at H
                obtain ⟨rfl, rfl, rfl, rfl, rfl, rfl, rfl⟩ := H
                have hnb81 := NB156_153.out
                have hnc81 := NB153_156.out
                have hcz82_0 : wr.cell? ⟨gb156, 0, none⟩ = some (.int .i64 t155) := (blk_cell BK156.out 0).trans rfl
                have hcz82_1 : wr.cell? ⟨gb156, 1, none⟩ = some (.int .i64 x157001_2) := (blk_cell BK156.out 1).trans rfl
                have hcz82_2 : wr.cell? ⟨gb156, 2, none⟩ = some (.int .i64 x157002_2) := (blk_cell BK156.out 2).trans rfl
                have hcz82_3 : wr.cell? ⟨gb156, 3, none⟩ = some (.int .i64 x157003_2) := (blk_cell BK156.out 3).trans rfl
                have hcz82_4 : wr.cell? ⟨gb156, 4, none⟩ = some (u157004) := (blk_cell BK156.out 4).trans rfl
                have hcz82_5 : wr.cell? ⟨gb156, 5, none⟩ = some (u157005) := (blk_cell BK156.out 5).trans rfl
                have hfz82_0 := blk_frozen BK156.out 0
                have hfz82_1 := blk_frozen BK156.out 1
                have hfz82_2 := blk_frozen BK156.out 2
                have hfz82_3 := blk_frozen BK156.out 3
                have hfz82_4 := blk_frozen BK156.out 4
                have hfz82_5 := blk_frozen BK156.out 5
                have hcz83_0 : wr.cell? ⟨gb153, 0, none⟩ = some (.int .i64 x154000_2) := (blk_cell BK153.out 0).trans rfl
                have hcz83_1 : wr.cell? ⟨gb153, 1, none⟩ = some (.int .i64 x154001_2) := (blk_cell BK153.out 1).trans rfl
                have hcz83_2 : wr.cell? ⟨gb153, 2, none⟩ = some (.int .i64 x154002_2) := (blk_cell BK153.out 2).trans rfl
                have hcz83_3 : wr.cell? ⟨gb153, 3, none⟩ = some (.int .i64 x154003_2) := (blk_cell BK153.out 3).trans rfl
                have hcz83_4 : wr.cell? ⟨gb153, 4, none⟩ = some (.slice none 0 0) := (blk_cell BK153.out 4).trans rfl
                have hcz83_5 : wr.cell? ⟨gb153, 5, none⟩ = some (.slice none 0 0) := (blk_cell BK153.out 5).trans rfl
                have hfz83_0 := blk_frozen BK153.out 0
                have hfz83_1 := blk_frozen BK153.out 1
                have hfz83_2 := blk_frozen BK153.out 2
                have hfz83_3 := blk_frozen BK153.out 3
                have hfz83_4 := blk_frozen BK153.out 4
                have hfz83_5 := blk_frozen BK153.out 5
                obtain ⟨Ao84, co84, eo84⟩ := Kd.R_slice HO_157004.out
                subst eo84
                obtain ⟨Ao85, co85, eo85⟩ := Kd.R_slice HO_157005.out
                subst eo85
                go_wp2
                refine bodyPost_ret (results_ct rfl _ _ gb153 27 #[.int .i64 t155, .int .i64 x157001_2, .int .i64 x157002_2, .int .i64 x157003_2, .slice Ao84 x157004_2.length co84, .slice Ao85 x157005_2.length co85] (0, 0) _ rfl (by (with_reducible repeat (first | refine blk_drewN ?_ _ | refine blk_drew ?_ | refine blk_alloc ?_ _)); refine blk_put (cs := #[.int .i64 t155, .int .i64 x157001_2, .int .i64 x157002_2, .int .i64 x157003_2, .slice Ao84 x157004_2.length co84, .slice none 0 0]) ?_ 5 _ rfl; (with_reducible repeat (first | refine blk_drewN ?_ _ | refine blk_drew ?_ | refine blk_alloc ?_ _)); refine blk_put (cs := #[.int .i64 t155, .int .i64 x157001_2, .int .i64 x157002_2, .int .i64 x157003_2, .slice none 0 0, .slice none 0 0]) ?_ 4 _ rfl; (with_reducible repeat (first | refine blk_drewN ?_ _ | refine blk_drew ?_ | refine blk_alloc ?_ _)); refine blk_put (cs := #[.int .i64 t155, .int .i64 x157001_2, .int .i64 x157002_2, .int .i64 x154003_2, .slice none 0 0, .slice none 0 0]) ?_ 3 _ rfl; (with_reducible repeat (first | refine blk_drewN ?_ _ | refine blk_drew ?_ | refine blk_alloc ?_ _)); refine blk_put (cs := #[.int .i64 t155, .int .i64 x157001_2, .int .i64 x154002_2, .int .i64 x154003_2, .slice none 0 0, .slice none 0 0]) ?_ 2 _ rfl; (with_reducible repeat (first | refine blk_drewN ?_ _ | refine blk_drew ?_ | refine blk_alloc ?_ _)); refine blk_put (cs := #[.int .i64 t155, .int .i64 x154001_2, .int .i64 x154002_2, .int .i64 x154003_2, .slice none 0 0, .slice none 0 0]) ?_ 1 _ rfl; (with_reducible repeat (first | refine blk_drewN ?_ _ | refine blk_drew ?_ | refine blk_alloc ?_ _)); refine blk_put (cs := #[.int .i64 x154000_2, .int .i64 x154001_2, .int .i64 x154002_2, .int .i64 x154003_2, .slice none 0 0, .slice none 0 0]) ?_ 0 _ rfl; (with_reducible repeat (first | refine blk_drewN ?_ _ | refine blk_drew ?_ | refine blk_alloc ?_ _)); exact BK153.out) Try.underlying27 rfl (by kernel_rfl)) rfl ?_
                exact ⟨_, _, by first | rfl | (simp [errW_none, errW_some] <;> rfl) | (simp [*, errW_none, errW_some] <;> rfl), by (with_reducible repeat (first | apply Kd.R_alloc | apply Kd.R_drewN | apply Kd.R_drew)); exact Kd.R_mono (Kd.R_far (p := ⟨gb153, 5, none⟩) (Kd.R_far (p := ⟨gb153, 4, none⟩) (Kd.R_far (p := ⟨gb153, 3, none⟩) (Kd.R_far (p := ⟨gb153, 2, none⟩) (Kd.R_far (p := ⟨gb153, 1, none⟩) (Kd.R_far (p := ⟨gb153, 0, none⟩) (Kd.R_types HO_157004.out BK153.out (by decide)) (fun _ hk => by first | exact hk.2 | trivial) (.int .i64 t155)) (fun _ hk => by first | exact hk.2 | trivial) (.int .i64 x157001_2)) (fun _ hk => by first | exact hk.2 | trivial) (.int .i64 x157002_2)) (fun _ hk => by first | exact hk.2 | trivial) (.int .i64 x157003_2)) (fun _ hk => by first | exact hk.2 | trivial) (.slice Ao84 x157004_2.length co84)) (fun _ hk => by first | exact hk.2 | trivial) (.slice Ao85 x157005_2.length co85)) (fun _ hk => hk.1), by (with_reducible repeat (first | apply Kd.R_alloc | apply Kd.R_drewN | apply Kd.R_drew)); exact Kd.R_mono (Kd.R_far (p := ⟨gb153, 5, none⟩) (Kd.R_far (p := ⟨gb153, 4, none⟩) (Kd.R_far (p := ⟨gb153, 3, none⟩) (Kd.R_far (p := ⟨gb153, 2, none⟩) (Kd.R_far (p := ⟨gb153, 1, none⟩) (Kd.R_far (p := ⟨gb153, 0, none⟩) (Kd.R_types HO_157005.out BK153.out (by decide)) (fun _ hk => by first | exact hk.2 | trivial) (.int .i64 t155)) (fun _ hk => by first | exact hk.2 | trivial) (.int .i64 x157001_2)) (fun _ hk => by first | exact hk.2 | trivial) (.int .i64 x157002_2)) (fun _ hk => by first | exact hk.2 | trivial) (.int .i64 x157003_2)) (fun _ hk => by first | exact hk.2 | trivial) (.slice Ao84 x157004_2.length co84)) (fun _ hk => by first | exact hk.2 | trivial) (.slice Ao85 x157005_2.length co85)) (fun _ hk => hk.1), by repeat (first | (with_reducible first | exact HB.out | apply below_alloc | apply pw_below_drewN | apply below_drew1 | refine below_set ?_ GE153.out | refine below_set ?_ GE156.out) | exact HB.out)⟩
  · rw [if_neg c2] at H
    exact absurd H (by simp)
def console_hex.f (l0 : List Int) : Option (ByteArray) := if (l0.length : Int) = 0 then (some (⟨#[45]⟩ : ByteArray)) else ((octet_Hex.f l0).bind fun t198 => (some t198))
set_option maxHeartbeats 8000000 in
set_option maxRecDepth 100000 in
theorem console_hex.calls (A0 : Option Addr) (c0 : Nat) (l0 : List Int) (r : ByteArray) (w : World) (hr0 : Kd.C (Kd.int .u8) w A0 l0.length l0) (hc0 : l0.length ≤ c0) (h : console_hex.f l0 = some r) :
    Calls Try.prog 77 #[.slice A0 l0.length c0] w fun e w' => e = .returned (.string r) ∧ Below w.heap.size w w' := by
  have HR0 := Aside0.mk hr0
  have HC0 := Aside0.mk hc0
  clear hr0 hc0
  have HB := Aside0.mk (Below.refl w.heap.size w)
  have H : (if (l0.length : Int) = 0 then (some (⟨#[45]⟩ : ByteArray)) else ((octet_Hex.f l0).bind fun t198 => (some t198))) = some r := h
  clear h
  by_cases c2 : (l0.length : Int) = 0
  · rw [if_pos c2] at H
    have c2b0 : ((l0.length : Int) == 0) = true := beq_iff_eq.mpr c2
    have c2b1 : ((l0.length : Int) != 0) = false := bne_eq_false_iff_eq.mpr c2
    clear c2
    obtain rfl := Option.some.inj H
    go_enter Try.func77, Try.ntmps77
    go_wp2
    go_ret
    exact ⟨by first | rfl | (simp [errW_none, errW_some] <;> rfl) | (simp [*, errW_none, errW_some] <;> rfl), by repeat (first | (with_reducible first | exact HB.out | apply below_alloc | apply pw_below_drewN | apply below_drew1) | exact HB.out)⟩
  · rw [if_neg c2] at H
    have c2b0 : ((l0.length : Int) == 0) = false := beq_eq_false_iff_ne.mpr c2
    have c2b1 : ((l0.length : Int) != 0) = true := bne_iff_ne.mpr c2
    have c2b2 : ¬ (l0 = []) := fun h_ => c2 (by rw [h_]; rfl)
    replace H := Option.bind_eq_some_iff.mp H
    obtain ⟨t198, A30, H⟩ := H
    replace H : (some t198) = some r := H
    have A3 := Aside0.mk A30
    clear A30
    obtain rfl := Option.some.inj H
    go_enter Try.func77, Try.ntmps77
    go_wp2_with (first | ((with_reducible refine gate_callee (f := 95) rfl ?_); refine goesL_ (some 7) rfl rfl Try.func95 (by kernel_rfl) rfl #[.slice A0 l0.length c0] rfl (by (try simp only [List.map_toArray, List.map_cons, List.map_nil]); first | done | rfl | (simp only [List.length_drop, List.length_take]; rfl)) ?_; (with_reducible refine (octet_Hex.calls _ _ l0 t198 _ ?side1 ?side2 A3.out).mono ?_); (case side1 => repeat (first | exact HR0.out | (with_reducible refine Kd.C_alloc ?_ _) | (with_reducible refine Kd.C_drewN ?_ _) | (with_reducible refine Kd.C_drew ?_))); (case side2 => exact HC0.out); rintro e w4 ⟨rfl, hb⟩; refine ⟨_, rfl, ?_⟩; have n0_ := Aside0.mk (below_step (by repeat (first | (with_reducible first | exact HB.out | apply below_alloc | apply pw_below_drewN | apply below_drew1) | exact HB.out)) hb); clear HB; have HB := n0_; clear n0_; (try clear hb); (try clear hb2); (try clear hk); (try clear hi)))
    go_ret
    exact ⟨by first | rfl | (simp [errW_none, errW_some] <;> rfl) | (simp [*, errW_none, errW_some] <;> rfl), by repeat (first | (with_reducible first | exact HB.out | apply below_alloc | apply pw_below_drewN | apply below_drew1) | exact HB.out)⟩
def nepentheref35_Hex.f (l0 : List Int) : Option (ByteArray) := if (l0.length : Int) = 0 then (some (⟨#[45]⟩ : ByteArray)) else ((nepentheref01_Hex.f l0).bind fun t205 => (some t205))
set_option maxHeartbeats 8000000 in
set_option maxRecDepth 100000 in
theorem nepentheref35_Hex.calls (A0 : Option Addr) (c0 : Nat) (l0 : List Int) (r : ByteArray) (w : World) (hr0 : Kd.C (Kd.int .u8) w A0 l0.length l0) (hc0 : l0.length ≤ c0) (h : nepentheref35_Hex.f l0 = some r) :
    Calls Try.prog 51 #[.slice A0 l0.length c0] w fun e w' => e = .returned (.string r) ∧ Below w.heap.size w w' := by
  have HR0 := Aside0.mk hr0
  have HC0 := Aside0.mk hc0
  clear hr0 hc0
  have HB := Aside0.mk (Below.refl w.heap.size w)
  have H : (if (l0.length : Int) = 0 then (some (⟨#[45]⟩ : ByteArray)) else ((nepentheref01_Hex.f l0).bind fun t205 => (some t205))) = some r := h
  clear h
  by_cases c2 : (l0.length : Int) = 0
  · rw [if_pos c2] at H
    have c2b0 : ((l0.length : Int) == 0) = true := beq_iff_eq.mpr c2
    have c2b1 : ((l0.length : Int) != 0) = false := bne_eq_false_iff_eq.mpr c2
    clear c2
    obtain rfl := Option.some.inj H
    go_enter Try.func51, Try.ntmps51
    go_wp2
    go_ret
    exact ⟨by first | rfl | (simp [errW_none, errW_some] <;> rfl) | (simp [*, errW_none, errW_some] <;> rfl), by repeat (first | (with_reducible first | exact HB.out | apply below_alloc | apply pw_below_drewN | apply below_drew1) | exact HB.out)⟩
  · rw [if_neg c2] at H
    have c2b0 : ((l0.length : Int) == 0) = false := beq_eq_false_iff_ne.mpr c2
    have c2b1 : ((l0.length : Int) != 0) = true := bne_iff_ne.mpr c2
    have c2b2 : ¬ (l0 = []) := fun h_ => c2 (by rw [h_]; rfl)
    replace H := Option.bind_eq_some_iff.mp H
    obtain ⟨t205, A30, H⟩ := H
    replace H : (some t205) = some r := H
    have A3 := Aside0.mk A30
    clear A30
    obtain rfl := Option.some.inj H
    go_enter Try.func51, Try.ntmps51
    go_wp2_with (first | ((with_reducible refine gate_callee (f := 76) rfl ?_); refine goesL_ (some 7) rfl rfl Try.func76 (by kernel_rfl) rfl #[.slice A0 l0.length c0] rfl (by (try simp only [List.map_toArray, List.map_cons, List.map_nil]); first | done | rfl | (simp only [List.length_drop, List.length_take]; rfl)) ?_; (with_reducible refine (nepentheref01_Hex.calls _ _ l0 t205 _ ?side1 ?side2 A3.out).mono ?_); (case side1 => repeat (first | exact HR0.out | (with_reducible refine Kd.C_alloc ?_ _) | (with_reducible refine Kd.C_drewN ?_ _) | (with_reducible refine Kd.C_drew ?_))); (case side2 => exact HC0.out); rintro e w4 ⟨rfl, hb⟩; refine ⟨_, rfl, ?_⟩; have n0_ := Aside0.mk (below_step (by repeat (first | (with_reducible first | exact HB.out | apply below_alloc | apply pw_below_drewN | apply below_drew1) | exact HB.out)) hb); clear HB; have HB := n0_; clear n0_; (try clear hb); (try clear hb2); (try clear hk); (try clear hi)))
    go_ret
    exact ⟨by first | rfl | (simp [errW_none, errW_some] <;> rfl) | (simp [*, errW_none, errW_some] <;> rfl), by repeat (first | (with_reducible first | exact HB.out | apply below_alloc | apply pw_below_drewN | apply below_drew1) | exact HB.out)⟩
end Go.Proofs.Ytiogdomjmjiahaa.QC
