/- sha.Compress, sha.Pad, walked. -/
import Derived.Test.YtoojonapnifjoaaShT
namespace Go.Proofs.Ytoojonapnifjoaa.Own
open Go.RowKit Go.Proofs.Ytoojonapnifjoaa.Arr Go.Proofs.Ytoojonapnifjoaa.QB Go.Proofs.YtoojonapnifjoaaW.PrintWords Go.Proofs.YtoojonapnifjoaaW.PrintLast Go.Proofs.YtoojonapnifjoaaW.PrintMore
set_option linter.unusedVariables false
set_option linter.unusedSimpArgs false
theorem info34w : (Try.prog.info? 34).map (fun i => (i.zero, i.size, i.bytes)) = some (some (.int .u32 0), 1, 4) := by kernel_rfl
section
variable {P : Program} {ops : Array Oper} {rest : List Oper} {o : Oper} {a : Act} {w : World} {Q : Exit → Act → World → Prop}
theorem wpList_value (hg : o.guard = none) {v : Value} {w1 : World} (hrun : (execOp a.eval o).run P w = .ok (.value v) w1) (h : wpList P ops Q rest (a.put o.dst v) w1) : wpList P ops Q (o :: rest) a w :=
  wpList_plain hg fun _ hK => by
    unfold Oper.wp
    rw [hrun]
    exact hK _ _ h
theorem wpList_copy_run (hg : o.guard = none) (x y : Operand) (t1 t2 : TypeId) (ho : o.op = .call { callee := .builtin .copy, args := #[x, y], argTypes := #[t1, t2] }) (vx vy : Value) (hx : a.eval x = vx) (hy : a.eval y = vy) {v : Value} {w1 : World}
    (hr : (Builtin.copy_ #[t1, t2] o.type #[vx, vy]).run P w = .ok v w1) (h : wpList P ops Q rest (a.put o.dst v) w1) : wpList P ops Q (o :: rest) a w := wpList_value hg (exec_copy w x y t1 t2 ho vx vy hx hy hr) h
theorem wpList_append_run (hg : o.guard = none) (x y : Operand) (t1 t2 : TypeId) (ho : o.op = .call { callee := .builtin .append, args := #[x, y], argTypes := #[t1, t2] }) (vx vy : Value) (hx : a.eval x = vx) (hy : a.eval y = vy) {v : Value} {w1 : World}
    (hr : (Builtin.append_ #[t1, t2] o.type #[vx, vy]).run P w = .ok v w1) (h : wpList P ops Q rest (a.put o.dst v) w1) : wpList P ops Q (o :: rest) a w := wpList_value hg (exec_append w x y t1 t2 ho vx vy hx hy hr) h
end
set_option maxHeartbeats 2000000 in
set_option maxRecDepth 100000 in
theorem compress_no (A0 A1 : Option Addr) (n0 c0 n1 c1 : Nat) (w : World) (h : ¬ (n0 = 8 ∧ n1 = 64)) :
    Calls Try.prog 25 #[.slice A0 n0 c0, .slice A1 n1 c1] w fun e w' => e = .returned (.tuple #[.slice none 0 0, .int .i64 2]) ∧ Drawn0 w w' := by
  by_cases h8 : n0 = 8
  · have h64 : ((n1 : Int) != 64) = true := by simp; omega
    subst h8
    clear h
    go_enter Try.func25, Try.ntmps25
    go_wp2
    go_ret2
    exact ⟨rfl, Drawn0.refl _⟩
  · have h64 : ((n0 : Int) != 8) = true := by simp; omega
    clear h h8
    go_enter Try.func25, Try.ntmps25
    go_wp2
    go_ret2
    exact ⟨rfl, Drawn0.refl _⟩
set_option maxHeartbeats 2000000 in
set_option maxRecDepth 100000 in
theorem compress_ok (A0 : Option Addr) (c0 : Nat) (l0 : List Int) (A1 : Option Addr) (c1 : Nat) (l1 : List Int) (w : World) (hr0 : Kd.C (Kd.int .u32) w A0 8 l0) (hl0 : l0.length = 8) (hc0 : 8 ≤ c0) (hr1 : Kd.C (Kd.int .u8) w A1 64 l1) (hl1 : l1.length = 64) (hc1 : 64 ≤ c1) :
    Calls Try.prog 25 #[.slice A0 8 c0, .slice A1 64 c1] w fun e w' => ∃ v, e = .returned (.tuple #[v, .int .i64 0]) ∧ Kd.R (Kd.int .u32) 34 w' w.heap.size (fun _ => True) v (compL l0 l1) ∧ Below w.heap.size w w' := by
  obtain ⟨b, o, rfl, hra⟩ := C_range hr0 (by decide)
  obtain ⟨hz, -⟩ := zero_of_info (P := Try.prog) info8
  have harr := fun W => run_arrayAt (P := Try.prog) (w := W) 35 34 8 (some ⟨b, o, none⟩) 8 c0 Try.underlying35 (by decide)
  obtain ⟨T, hT⟩ : ∃ T, T = compL l0 l1 := ⟨_, rfl⟩
  have hT8 : T.length = 8 := by rw [hT]; exact compL_length _ _ hl0
  have hcomp : ∀ w1, Kd.C (Kd.int .u8) w1 A1 64 l1 → Calls Try.prog 51 #[.agg (l0.map (Value.int .u32)).toArray, .slice A1 64 c1] w1 fun e w' => e = .returned (.agg (ints .u32 T)) ∧ Below w1.heap.size w1 w' := by
    rw [hT]; exact fun w1 h => compress_any l0 hl0 A1 c1 l1 w1 h hl1 hc1
  rw [← hT]
  have hl0' := Lib.hid hl0
  have hra' := Lib.hid hra
  have hr1' := Lib.hid hr1
  have hT8' := Lib.hid hT8
  have hcomp' := Lib.hid hcomp
  have h8 : ((8 : Int) != 8) = false := rfl
  have h64 : ((64 : Int) != 64) = false := rfl
  clear hl0 hra hr0 hT hT8 hcomp hl1 hc1 hr1
  go_enter Try.func25, Try.ntmps25
  go_wp2_with (first | (with_reducible refine wpList_load_mid rfl 35 _ rfl b o rfl (l0.map (Value.int .u32)) _ hra'.out Try.underlying35 rfl (by rw [List.length_map, hl0'.out, size8]) ?_) | (go_at_call 51; refine (hcomp'.out _ (by repeat (first | exact hr1'.out | (with_reducible refine Kd.C_alloc ?_ _)))).mono ?_; rintro e w1 ⟨rfl, hb⟩; have hb1 := Lib.hid hb; clear hb) | (with_reducible refine wpList_store_row rfl 35 _ _ rfl w1.heap.size (ints .u32 T) rfl rfl 35 (ints .u32 (zer 8)) (heap_at _ _ _ rfl) (sz8 hT8'.out) (sz_eq ((zer_length 8).trans hT8'.out.symm)) (ints_one _ _) ?_) | (at_builtin; refine Kd.R_append_rows (Kd.int .u32) (w0 := w) w.heap.size rfl (.tmp 20) (.tmp 21) 38 34 (.int .u32 0) 4 rfl Try.underlying38 info34w rfl (by decide) (by omega) (.slice (some ⟨w1.heap.size + 1, 0, none⟩) 0 0) ([] : List Int) T (some ⟨w1.heap.size, 0, none⟩) 8 8 (fun _ => True) (fun _ => False) rfl rfl (R_of_nums (own_empty _ _ _ _ _ (by simp) (by have := hb1.out.size; simp; omega))) (by have hq := C_block (k := .u32) (l := T) (w := ((w1.alloc (.cells (ints .u32 (zer 8)) 35)).setRow w1.heap.size (ints .u32 T)).alloc (.cells #[] 34)) (g := w1.heap.size) (t := 35) (fr := (0, 0)) (by rw [heap_skip _ _ _ (by simp)]; exact setRow_heap _ _ (ints .u32 (zer 8)) _ _ _ (heap_at _ _ _ rfl)) (by rw [hT8'.out]; omega); rw [hT8'.out] at hq; exact hq) (fun _ _ h => h) (fun _ h => h.elim) (fun _ _ => trivial) ((below_setRow (hb1.out.alloc hb1.out.size _) hb1.out.size _).alloc (by have := hb1.out.size; simp; omega) _) (by have := hb1.out.size; simp; omega) (by simp only [List.length_nil]; omega) ?_; intro v w2 hR hb hg hat; have hR2 := Lib.hid hR; have hb2 := Lib.hid hb; clear hR hb hg hat))
  go_ret2
  exact ⟨_, rfl, hR2.out, hb2.out⟩
/-! ### Pad -/
theorem copy_bytes' {w : World} {A : Option Addr} {c : Nat} {l : List Int} (ty : TypeId) (b d : Nat) (h : Kd.C (Kd.int .u8) w A l.length l) {cs : Array Value} {t : TypeId} (hb : w.heap[b]? = some (.cells cs t (0, 0))) (hcs : l.length ≤ cs.size) (n : Nat) (hn : l.length ≤ n) :
    (Builtin.copy_ #[22, 22] ty #[.slice (some ⟨b, 0, none⟩) n d, .slice A l.length c]).run Try.prog w = .ok (.int .i64 (l.length : Int)) (w.setCells b 0 (l.map (Value.int .u8))) := by
  have hsz : (Try.prog.info? 5).map (·.size) = some 1 := by kernel_rfl
  rcases Nat.eq_zero_or_pos l.length with h0 | h0
  · obtain rfl := List.length_eq_zero_iff.1 h0
    obtain ⟨i0, hi, _, hs, _⟩ := info_parts info5
    cases A <;> simp [Builtin.copy_, run_underlying Try.underlying22, Builtin.lenOf, Builtin.firstCells, sizeOf, typeInfo, hi, hs, loadCells, loadCellsFrom, storeCells, World.setCells, goInt]
  · obtain ⟨b', o', rfl, hr⟩ := C_range h h0
    have := run_copy_cells (P := Try.prog) w 22 22 ty 5 b 0 n d ⟨b', o', none⟩ l.length c (l.map (Value.int .u8)) Try.underlying22 hsz (by rw [List.length_map]; simp [Nat.min_def, hn]) (fun j v hj => by rw [Addr.add_mid]; exact hr j v hj)
      (fun j hj => by rw [Nat.zero_add, cell_of_row w b j _ _ _ hb]; simp at hj; rw [Array.getElem?_eq_getElem (by omega)]; rfl) (fun j hj => by rw [Nat.zero_add]; exact frozen_of_row w b j _ _ hb) (u8_one l)
    rw [this]
    simp [goInt]
theorem append_room {w : World} {B : Option Addr} {cb : Nat} {m : List Int} (ty : TypeId) (b n d : Nat) (hm : Kd.C (Kd.int .u8) w B m.length m) {cs : Array Value} {t : TypeId} (hb : w.heap[b]? = some (.cells cs t (0, 0))) (hroom : n + m.length ≤ d) (hcs : n + m.length ≤ cs.size) :
    (Builtin.append_ #[22, 22] ty #[.slice (some ⟨b, 0, none⟩) n d, .slice B m.length cb]).run Try.prog w = .ok (.slice (some ⟨b, 0, none⟩) (n + m.length) d) (w.setCells b n (m.map (Value.int .u8))) := by
  obtain ⟨i0, hi, hz, hs, hby⟩ := info_parts info5
  have hsrc := src_of_C (c := cb) hm
  have := run_append_room_src (P := Try.prog) w 22 22 ty _ i0 Try.underlying22 hi b 0 n d (.slice B m.length cb) m.length (m.map (Value.int .u8)) (by rw [hs]; exact hsrc) hroom
    (fun j hj => by rw [cell_of_row w b _ _ _ _ hb, hs]; simp at hj; rw [Array.getElem?_eq_getElem (by omega)]; rfl) (fun j hj => frozen_of_row w b _ _ _ hb)
  rw [hs, Nat.mul_one, Nat.zero_add] at this
  exact this
set_option maxHeartbeats 2000000 in
set_option maxRecDepth 100000 in
theorem pad_any (A0 : Option Addr) (c0 : Nat) (l0 : List Int) (w : World) (hr0 : Kd.C (Kd.int .u8) w A0 l0.length l0) (hlen : l0.length ≤ 1099511627776) :
    Calls Try.prog 19 #[.slice A0 l0.length c0] w fun e w' => ∃ v0_ : Value, e = .returned v0_ ∧ Kd.R (Kd.int .u8) 5 w' w.heap.size (fun _ => True) v0_ (l0 ++ tailL l0.length) ∧ Below w.heap.size w w' := by
  obtain ⟨i0, hi, hz, hs, hby⟩ := info_parts info5
  have hmk := fun W => run_make (P := Try.prog) W 22 5 i0 (.int .u8 0) Try.underlying22 hi hz .i64 .i64 (l0.length : Int) ((l0.length : Int) + 72) (by omega) (by omega) (by rw [hby]; omega) (by omega)
  have hwr : IntKind.i64.wrap ((l0.length : Int) + 72) = (l0.length : Int) + 72 := by rw [IntKind.wrap_i64]; omega
  have hr0' := Lib.hid hr0
  have hlen' := Lib.hid hlen
  obtain ⟨T, hT⟩ : ∃ T, T = tailL l0.length := ⟨_, rfl⟩
  have htail := tail_eq l0.length hlen 0
  rw [← hT] at htail ⊢
  have hTl : T.length ≤ 72 := by rw [hT, tail_length]; have := zerosN_lt l0.length; omega
  have htail' := Lib.hid htail
  have hTl' := Lib.hid hTl
  clear hr0 hlen hT htail hTl hi hz hby
  go_enter Try.func19, Try.ntmps19
  have hmz : (madeCells (Value.int IntKind.u8 0).cells (((l0.length : Int) + 72).toNat * i0.size)).size = l0.length + 72 := by rw [hs]; simp [madeCells]; omega
  have hmk' : ∀ W : World, (Instr.makeSlice 22 (.int .i64 (l0.length : Int)) (.int .i64 ((l0.length : Int) + 72))).run Try.prog W = .ok (.slice (some ⟨W.heap.size, 0, none⟩) l0.length (l0.length + 72)) (W.alloc (.cells (madeCells (Value.int IntKind.u8 0).cells (((l0.length : Int) + 72).toNat * i0.size)) 5)) := fun W => by
    have := hmk W
    rw [Int.toNat_natCast, show ((l0.length : Int) + 72).toNat = l0.length + 72 from by omega] at this
    rw [show ((l0.length : Int) + 72).toNat = l0.length + 72 from by omega]
    exact this
  generalize madeCells (Value.int IntKind.u8 0).cells (((l0.length : Int) + 72).toNat * i0.size) = mc at hmz hmk'
  have hmz' := Lib.hid hmz
  clear hmk hs hmz
  go_wp2_with (first | (go_at_call 46; refine (sha_tail.calls _ _ T _ htail'.out).mono ?_; rintro e w2 ⟨vt, rfl, hRt, hb2⟩; obtain ⟨At, ct, rfl⟩ := Kd.R_slice hRt; have hCt := Lib.hid (Kd.R_reads' hRt).2.2; have hb2' := Lib.hid hb2; have hob2 := Lib.hid (heap_below hob1.out hb2); clear hRt hb2) | (refine wpList_copy_run rfl (.tmp 10) (.tmp 11) 22 22 rfl (.slice (some ⟨w.heap.size, 0, none⟩) l0.length (l0.length + 72)) (.slice A0 l0.length c0) rfl rfl (copy_bytes' 3 w.heap.size (l0.length + 72) (Kd.C_alloc hr0'.out _) (cs := mc) (t := 5) (heap_at _ _ _ rfl) (by have := hmz'.out; omega) l0.length (Nat.le_refl _)) ?_; obtain ⟨cs1, hob, hsz, hcs⟩ := setCells_heap (l0.map (Value.int .u8)) 0 (w.alloc (.cells mc 5)) mc 5 (heap_at _ _ w.heap.size rfl); have hbw := Lib.hid ((((Below.refl w.heap.size w).alloc (Nat.le_refl _) (.cells mc 5)).trans (((Chg.refl w.heap.size (w.alloc (.cells mc 5))).setCells 0 (l0.map (Value.int .u8))).below (Nat.le_refl _) (by simp)))); generalize hw1 : (w.alloc (.cells mc 5)).setCells w.heap.size 0 (l0.map (Value.int .u8)) = w1 at hob hbw; have hob1 := Lib.hid hob; have hsz1 := Lib.hid hsz; have hcs1 := Lib.hid hcs; clear hob hsz hcs hw1) | (refine wpList_append_run rfl (.tmp 13) (.tmp 16) 22 22 rfl (.slice (some ⟨w.heap.size, 0, none⟩) l0.length (l0.length + 72)) (.slice At T.length ct) rfl rfl (append_room 22 w.heap.size l0.length (l0.length + 72) hCt.out hob2.out (by have := hTl'.out; omega) (by rw [hsz1.out, hmz'.out]; have := hTl'.out; omega)) ?_; obtain ⟨cs3, hob, hsz, hcs⟩ := setCells_heap (T.map (Value.int .u8)) l0.length w2 cs1 5 hob2.out; have hbw3 := Lib.hid ((hbw.out.trans (hb2'.out.mono hbw.out.size)).trans (((Chg.refl w.heap.size w2).setCells l0.length (T.map (Value.int .u8))).below (Nat.le_refl _) (Nat.le_trans hbw.out.size hb2'.out.size))); generalize hw3 : w2.setCells w.heap.size l0.length (T.map (Value.int .u8)) = w3 at hob hbw3; have hob3 := Lib.hid hob; have hsz3 := Lib.hid hsz; have hcs3 := Lib.hid hcs; clear hob hsz hcs hw3))
  go_ret
  refine ⟨_, rfl, R_of_nums ⟨by rw [nums_length, Nat.mul_one], .inr ⟨w.heap.size, l0.length + 72, cs3, by rw [List.length_append]; rfl, Nat.le_refl _, hob3.out, by rw [List.length_append]; have := hTl'.out; omega, by simp only [maxLen]; have := hlen'.out; omega, by rw [hsz3.out, hsz1.out, hmz'.out, Nat.mul_one], ?_⟩⟩, hbw3.out⟩
  apply List.ext_getElem?
  intro j
  rw [List.getElem?_take, Nat.mul_one, List.length_append]
  have h1 := hcs1.out j
  have h3 := hcs3.out j
  have hs1 := hsz1.out
  have hm := hmz'.out
  have hT := hTl'.out
  rw [Array.getElem?_toList, h3, List.length_map, h1, List.length_map, nums_append]
  simp only [nums]
  by_cases c1 : j < l0.length
  · rw [if_pos (by omega), if_neg (by omega), if_pos (by omega), Nat.sub_zero, List.getElem?_append_left (by rw [List.length_map]; exact c1)]
  · by_cases c2 : j < l0.length + T.length
    · rw [if_pos c2, if_pos (by omega), List.getElem?_append_right (by rw [List.length_map]; omega), List.length_map]
    · rw [if_neg c2, List.getElem?_eq_none (by simp; omega)]
end Go.Proofs.Ytoojonapnifjoaa.Own
