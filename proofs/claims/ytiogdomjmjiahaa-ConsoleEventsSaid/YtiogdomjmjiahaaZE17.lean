/- CoH, pruned (slim.py). -/
import Derived.Test.YtiogdomjmjiahaaZE16
import Derived.Test.YtiogdomjmjiahaaZE14
namespace Go.Proofs.Ytiogdomjmjiahaa.Own
open Go.RowKit Go.Proofs.Ytiogdomjmjiahaa.Arr Go.Proofs.Ytiogdomjmjiahaa.QA Go.Proofs.Ytiogdomjmjiahaa.QB Go.Proofs.YtiogdomjmjiahaaW.PrintWords Go.Proofs.YtiogdomjmjiahaaW.PrintLast Go.Proofs.YtiogdomjmjiahaaW.PrintMore
set_option linter.unusedVariables false
set_option linter.unusedSimpArgs false
attribute [-go_sem] Instr.build
def hexD (d : Nat) : Int := if d < 10 then 48 + d else 87 + d
def hex2 (x : Int) : List Int := [hexD (x / 16).toNat, hexD (x % 16).toNat]
def hexL (l : List Int) : List Int := l.flatMap hex2
theorem hexL_length (l : List Int) : (hexL l).length = 2 * l.length := by
  induction l with
  | nil => rfl
  | cons x l ih =>
    have : hexL (x :: l) = hex2 x ++ hexL l := rfl
    rw [this, List.length_append, ih, List.length_cons]
    show 2 + _ = _
    omega
theorem hexL_succ (l : List Int) (k : Nat) (h : k < l.length) : hexL (l.take (k + 1)) = hexL (l.take k) ++ hex2 (l.getD k 0) := by
  unfold hexL
  rw [List.take_succ_eq_append_getElem h, List.flatMap_append, List.getD_eq_getElem?_getD, List.getElem?_eq_getElem h]
  simp
theorem hexD_byt (d : Nat) (h : d < 16) : byt (hexD d) := by unfold hexD byt; split <;> omega
theorem hex2_byt (x : Int) (h : byt x) : ∀ y ∈ hex2 x, byt y := by
  intro y hy
  obtain ⟨h0, h1⟩ := h
  simp [hex2] at hy
  rcases hy with rfl | rfl <;> exact hexD_byt _ (by omega)
theorem hexL_byt (l : List Int) (h : ∀ x ∈ l, byt x) : ∀ y ∈ hexL l, byt y := by
  intro y hy
  obtain ⟨x, hx, hy⟩ := List.mem_flatMap.1 hy
  exact hex2_byt x (h x hx) y hy
def HEXS : List Int := [48, 49, 50, 51, 52, 53, 54, 55, 56, 57, 97, 98, 99, 100, 101, 102]
theorem built16 : Try.prog.built 157 (#[(0, .int .u8 48), (1, .int .u8 49), (2, .int .u8 50), (3, .int .u8 51), (4, .int .u8 52), (5, .int .u8 53), (6, .int .u8 54), (7, .int .u8 55), (8, .int .u8 56), (9, .int .u8 57), (10, .int .u8 97), (11, .int .u8 98), (12, .int .u8 99), (13, .int .u8 100), (14, .int .u8 101), (15, .int .u8 102)] : Array (Nat × Value)).toList = some (ints .u8 HEXS) := by kernel_rfl
section
variable {P : Program}
theorem run_index_kind (kx : IntKind) (T E : TypeId) (n : Nat) (k : IntKind) (l : List Int) (i : Nat) (hu : P.underlying T = some (.array n E)) (hs : (P.info? E).map (·.size) = some 1) (d : TypeDesc) (hE : P.underlying E = some d)
    (hd : (match d with | .struct _ | .array _ _ => true | _ => false) = false) (hl : l.length = n) (hi : i < n) (w : World) :
    (Instr.index T (.agg (ints k l)) (.int kx (i : Int))).run P w = .ok (.int k (l.getD i 0)) w := by
  have hag : (isAgg E).run P w = .ok false w := by
    unfold isAgg
    rw [Sem.run_bind, run_underlying hE w]
    cases d <;> simp_all
  cases hq : P.info? E with
  | none => simp [hq] at hs
  | some ie =>
    have hz : ie.size = 1 := by simpa [hq] using hs
    have hz' : (sizeOf E).run P w = .ok 1 w := by simp [sizeOf, typeInfo, hq, hz]
    have hp : (part E (ints k l) i).run P w = .ok (.int k (l.getD i 0)) w := by
      unfold part
      rw [Sem.run_bind, hag]
      simp only [Result.andThen_ok, Bool.false_eq_true, if_false]
      rw [ints_get k l i (by omega)]
      rfl
    unfold Instr.index
    simp only [asIntOf, Sem.run_bind, Sem.run_pure, Result.andThen_ok, run_underlying hu]
    rw [if_pos (by omega)]
    simp only [Sem.run_bind, hz', Result.andThen_ok, Int.toNat_natCast, Nat.mul_one, hp]
end
theorem size5 : (Try.prog.info? 5).map (·.size) = some 1 := by kernel_rfl
theorem index16 (d : Nat) (h : d < 16) (W : World) : (Instr.index 157 (.agg (ints .u8 HEXS)) (.int .u8 (d : Int))).run Try.prog W = .ok (.int .u8 (hexD d)) W := by
  rw [run_index_kind .u8 157 5 16 .u8 HEXS d Try.underlying157 size5 _ Try.underlying5 rfl rfl h W]
  have : d = 0 ∨ d = 1 ∨ d = 2 ∨ d = 3 ∨ d = 4 ∨ d = 5 ∨ d = 6 ∨ d = 7 ∨ d = 8 ∨ d = 9 ∨ d = 10 ∨ d = 11 ∨ d = 12 ∨ d = 13 ∨ d = 14 ∨ d = 15 := by omega
  rcases this with rfl | rfl | rfl | rfl | rfl | rfl | rfl | rfl | rfl | rfl | rfl | rfl | rfl | rfl | rfl | rfl <;> rfl
theorem and15 (x : Int) (h : byt x) : Go.bits .and .u8 x 15 = x % 16 := by
  obtain ⟨n, rfl⟩ := Int.eq_ofNat_of_zero_le h.1
  have hn : n < 256 := by have := h.2; omega
  have : ∀ m : Fin 256, Go.bits .and .u8 ((m.val : Nat) : Int) 15 = ((m.val : Nat) : Int) % 16 := by decide +kernel
  exact this ⟨n, hn⟩
set_option maxHeartbeats 2000000 in
set_option maxRecDepth 100000 in
theorem digit_any (x : Int) (h : byt x) (w : World) : Calls Try.prog 100 #[.int .u8 x] w fun e w' => e = .returned (.int .u8 (hexD (x % 16).toNat)) ∧ w' = w := by
  have hb16 : ∀ W : World, (Instr.build 157 #[(0, .int .u8 48), (1, .int .u8 49), (2, .int .u8 50), (3, .int .u8 51), (4, .int .u8 52), (5, .int .u8 53), (6, .int .u8 54), (7, .int .u8 55), (8, .int .u8 56), (9, .int .u8 57), (10, .int .u8 97), (11, .int .u8 98), (12, .int .u8 99), (13, .int .u8 100), (14, .int .u8 101), (15, .int .u8 102)]).run Try.prog W = .ok (.agg (ints .u8 HEXS)) W := fun W => run_build W _ _ _ built16
  have ha := and15 x h
  obtain ⟨d, hd⟩ : ∃ d : Nat, (d : Int) = x % 16 := ⟨(x % 16).toNat, by obtain ⟨h0, h1⟩ := h; omega⟩
  have hd16 : d < 16 := by obtain ⟨h0, h1⟩ := h; omega
  have e : (x % 16).toNat = d := by rw [← hd]; rfl
  rw [e]
  rw [← hd] at ha
  have hix := index16 d hd16
  obtain ⟨H, hH⟩ : ∃ H, H = ints .u8 HEXS := ⟨_, rfl⟩
  rw [← hH] at hb16 hix
  obtain ⟨v, hv⟩ : ∃ v, v = hexD d := ⟨_, rfl⟩
  rw [← hv] at hix ⊢
  clear hd e hH hv h hd16
  go_enter Try.func100, Try.ntmps100
  go_wp2
  go_ret
  exact ⟨rfl, rfl⟩
set_option maxHeartbeats 4000000 in
set_option maxRecDepth 100000 in
theorem hex_any (A : Option Addr) (c : Nat) (l : List Int) (w : World) (hC : Kd.C (Kd.int .u8) w A l.length l) (hc : l.length ≤ c) (hlen : l.length ≤ 1099511627776) (hb : ∀ x ∈ l, byt x) :
    Calls Try.prog 95 #[.slice A l.length c] w fun e w' => e = .returned (.string (strOfNums (hexL l))) ∧ Below w.heap.size w w' := by
  obtain ⟨i0, hi, hz, hs, hby⟩ := info_parts info5
  have hmk := run_make (P := Try.prog) w 25 5 i0 (.int .u8 0) Try.underlying25 hi hz .i64 .i64 0 (l.length : Int) (Int.le_refl _) (by omega) (by rw [hby]; omega) (by omega)
  have hown0 := World.ownsRow_made (e := 5) (base := w.heap.size) (size := 1) w (madeCells #[Value.int IntKind.u8 0] l.length) l.length (Nat.le_refl _) (by simp only [maxLen]; omega) (by rw [size_madeCells]; simp)
  simp only [Int.toNat_zero, Int.toNat_natCast] at hmk
  have hown0' := Lib.hid hown0
  have hC' := Lib.hid hC
  have hb' := Lib.hid hb
  have hlen' := Lib.hid hlen
  have hdig := Lib.hid (fun x h w => digit_any x h w)
  have hm0 : (l.length : Int) ≤ 1099511627776 := by omega
  clear hown0 hC hb hlen
  go_enter Try.func95, Try.ntmps95
  go_wp2_with fail
  clear hmk
  go_loopw [3, 11] (fun v u wr => ∃ k : Nat, k ≤ l.length ∧ u = .int .i64 k ∧ wr.ownsRow w.heap.size 5 1 v (hexL (l.take k)).length (nums .u8 (hexL (l.take k))) ∧ Below w.heap.size w wr) (fun _ u _ => l.length - (intOf u).toNat)
  case atStart => exact ⟨0, Nat.zero_le _, rfl, hown0'.out, (Below.refl _ _).alloc (Nat.le_refl _) _⟩
  case round =>
    obtain ⟨k, hk, rfl, hown, hbw⟩ := hrel
    obtain ⟨Av, cv, rfl⟩ := own_slice hown
    have hown' := Lib.hid hown
    have hbw' := Lib.hid hbw
    by_cases hlt : k < l.length
    · obtain ⟨b, o, rfl, hr⟩ := C_range hC'.out (by omega)
      have hc0 := pw_cell_below hbw (C_cell hr k hlt)
      have hbk := hb'.out (l.getD k 0) (by rw [List.getD_eq_getElem?_getD, List.getElem?_eq_getElem hlt]; exact List.getElem_mem hlt)
      have hsucc := hexL_succ l k hlt
      have hl2 := hexL_length (l.take k)
      rw [List.length_take] at hl2
      obtain ⟨x, hx⟩ : ∃ x, x = l.getD k 0 := ⟨_, rfl⟩
      rw [← hx] at hc0 hbk hsucc
      obtain ⟨D, hD⟩ : ∃ D, D = hexL (l.take k) := ⟨_, rfl⟩
      rw [← hD] at hsucc hl2 hown'
      have hx0 : 0 ≤ x := hbk.1
      have hx1 : x ≤ 255 := by have := hbk.2; omega
      have hby1 := Lib.hid (show byt (x / 16) from ⟨by omega, by omega⟩)
      have hbk' := Lib.hid hbk
      have e1 : (x / 16 % 16).toNat = (x / 16).toNat := by omega
      have hd1 := Lib.hid (show ∀ w1, Calls Try.prog 100 #[.int .u8 (x / 16)] w1 (fun e w' => e = .returned (.int .u8 (hexD (x / 16).toNat)) ∧ w' = w1) by intro w1; rw [← e1]; exact hdig.out (x / 16) hby1.out w1)
      have hd2 := Lib.hid (show ∀ w1, Calls Try.prog 100 #[.int .u8 x] w1 (fun e w' => e = .returned (.int .u8 (hexD (x % 16).toNat)) ∧ w' = w1) from fun w1 => hdig.out x hbk w1)
      have hsucc' := Lib.hid hsucc
      have hl2' := Lib.hid hl2
      obtain ⟨h1, hh1⟩ : ∃ h1, h1 = hexD (x / 16).toNat := ⟨_, rfl⟩
      obtain ⟨h2, hh2⟩ : ∃ h2, h2 = hexD (x % 16).toNat := ⟨_, rfl⟩
      have h12 := Lib.hid (show hex2 x = [h1, h2] by rw [hex2, hh1, hh2])
      rw [← hh1] at hd1
      rw [← hh2] at hd2
      clear hown hbw hbk hsucc hl2 hx e1 hh1 hh2 hr
      rw [← hD]
      clear hD
      go_wp2_with (first
        | ((with_reducible go_at_call 100); (first | (with_reducible refine (hd1.out _).mono ?_) | (with_reducible refine (hd2.out _).mono ?_)); rintro e w1 ⟨rfl, rfl⟩)
        | (refine wpList_own_append rfl (.tmp 15) (.tmp 21) 25 rfl w.heap.size (.slice Av D.length cv) D (.slice (some ⟨w1.heap.size, 0, none⟩) 2 2) [h1, h2] rfl rfl (src_lit _ w1.heap.size [h1, h2] (by simp) (heap_at _ _ _ rfl) 2) (hown'.out.alloc _) (below_alloc hbw'.out _).size (by have := hl2'.out; have := hlen'.out; simp only [List.length_cons, List.length_nil]; omega) ?_; intro v' w2 ho2 hg2; have ho2' := Lib.hid ho2; have hb2 := Lib.hid ((below_alloc hbw'.out (.cells (ints .u8 [h1, h2]) 5 (0, 0))).grown hg2 (below_alloc hbw'.out _).size (fun j hj => (hown'.out.lt j hj).1)); clear ho2 hg2))
      rw [← h12.out, ← hsucc'.out] at ho2'
      refine ⟨⟨k + 1, by omega, by go_num, ho2'.out, hb2.out⟩, ?measure⟩
      case measure => simp [intOf]; omega
    · obtain rfl : k = l.length := by omega
      rw [List.take_length] at hown'
      have hcv : ∀ (W : World), W = wr → (convert 25 9 (.slice Av (hexL (l.take l.length)).length cv)).run Try.prog W = .ok (.string (strOfNums (hexL l))) W := by
        rintro W rfl
        rw [List.take_length]
        exact own_string Try.underlying25 Try.underlying5 Try.underlying9 hown'.out
      have hcv' := hcv wr rfl
      clear hown hbw hlt hk hcv
      obtain ⟨N, hN⟩ : ∃ N, N = (hexL (l.take l.length)).length := ⟨_, rfl⟩
      rw [← hN] at hcv' ⊢
      obtain ⟨S, hS⟩ : ∃ S, S = strOfNums (hexL l) := ⟨_, rfl⟩
      rw [← hS] at hcv'
      have hS' := Lib.hid hS
      clear hN hS
      go_wp2_with fail
      go_ret
      exact ⟨by rw [← hS'.out]; rfl, hbw'.out⟩
section
variable {P : Program} {a : Act} {op : Oper}
theorem exec_slice_str (w : World) (ty : TypeId) (hu : P.underlying ty = some .string) (x lo hi : Operand) (ho : op.op = .slice ty x (some lo) (some hi) none) (vx vl vh v : Value) (hx : a.eval x = vx) (hl : a.eval lo = vl) (hh : a.eval hi = vh)
    (hr : (Instr.slice ty vx (some vl) (some vh) none).run P w = .ok v w) : (execOp a.eval op).run P w = .ok (.value v) w := by
  unfold execOp
  simp only [ho, Option.map_some, Option.map_none, hx, hl, hh, Sem.run_bind, Sem.run_pure, Result.andThen_ok, Instr.sliceAt, run_underlying hu, hr]
end
section
variable {P : Program} {a : Act} {op : Oper}
theorem exec_add (w : World) (ty ty2 : TypeId) (x y : Operand) (ho : op.op = .binOp .add ty x y ty2) (vx vy v : Value) (hx : a.eval x = vx) (hy : a.eval y = vy)
    (hr : (binOp .add ty vx vy).run P w = .ok v w) : (execOp a.eval op).run P w = .ok (.value v) w := by
  unfold execOp
  simp [ho, hx, hy, Sem.run_bind, Sem.run_pure, Result.andThen_ok, eqGuard, hr]
end
def HEXK : ByteArray := ⟨#[48, 49, 50, 51, 52, 53, 54, 55, 56, 57, 97, 98, 99, 100, 101, 102]⟩
theorem hexk_cut (d : Nat) (h : d < 16) (W : World) : (Instr.slice 9 (.string HEXK) (some (.int .u8 (d : Int))) (some (.int .u8 ((d : Int) + 1))) none).run Try.prog W = .ok (.string (strOfNums [hexD d])) W := by
  have e : HEXK.extract d (d + 1) = strOfNums [hexD d] := by
    have : d = 0 ∨ d = 1 ∨ d = 2 ∨ d = 3 ∨ d = 4 ∨ d = 5 ∨ d = 6 ∨ d = 7 ∨ d = 8 ∨ d = 9 ∨ d = 10 ∨ d = 11 ∨ d = 12 ∨ d = 13 ∨ d = 14 ∨ d = 15 := by omega
    rcases this with rfl | rfl | rfl | rfl | rfl | rfl | rfl | rfl | rfl | rfl | rfl | rfl | rfl | rfl | rfl | rfl <;> rfl
  have hs : HEXK.size = 16 := rfl
  rw [← e]
  have := run_slice_string (P := Try.prog) (w := W) 9 HEXK .u8 .u8 (d : Int) ((d : Int) + 1) Try.underlying9 (by omega) (by omega) (by rw [hs]; omega)
  rw [this, Int.toNat_natCast, show ((d : Int) + 1).toNat = d + 1 by omega]
theorem str_add (W : World) (a b : List Int) (h : a.length + b.length ≤ 9223372036854775807) : (binOp .add 9 (.string (strOfNums a)) (.string (strOfNums b))).run Try.prog W = .ok (.string (strOfNums (a ++ b))) W := by
  rw [show strOfNums (a ++ b) = strOfNums a ++ strOfNums b by apply ByteArray.ext; simp [strOfNums]]
  have h' : ¬ 9223372036854775807 < (strOfNums a).size + (strOfNums b).size := by rw [strOfNums_size, strOfNums_size]; omega
  go_simp
set_option maxHeartbeats 4000000 in
set_option maxRecDepth 100000 in
theorem refHex_any (A : Option Addr) (c : Nat) (l : List Int) (w : World) (hC : Kd.C (Kd.int .u8) w A l.length l) (hc : l.length ≤ c) (hlen : l.length ≤ 1099511627776) (hb : ∀ x ∈ l, byt x) :
    Calls Try.prog 76 #[.slice A l.length c] w fun e w' => e = .returned (.string (strOfNums (hexL l))) ∧ Below w.heap.size w w' := by
  have hC' := Lib.hid hC
  have hb' := Lib.hid hb
  have hlen' := Lib.hid hlen
  have hm0 : (l.length : Int) ≤ 1099511627776 := by omega
  clear hC hb hlen
  go_enter Try.func76, Try.ntmps76
  go_wp2_with fail
  go_loopw [4, 5] (fun v u wr => ∃ k : Nat, k ≤ l.length ∧ u = .int .i64 k ∧ v = .string (strOfNums (hexL (l.take k))) ∧ Below w.heap.size w wr) (fun _ u _ => l.length - (intOf u).toNat)
  case atStart => exact ⟨0, Nat.zero_le _, rfl, rfl, Below.refl _ _⟩
  case round =>
    obtain ⟨k, hk, rfl, rfl, hbw⟩ := hrel
    have hbw' := Lib.hid hbw
    by_cases hlt : k < l.length
    · obtain ⟨b, o, rfl, hr⟩ := C_range hC'.out (by omega)
      have hbk := hb'.out (l.getD k 0) (by rw [List.getD_eq_getElem?_getD, List.getElem?_eq_getElem hlt]; exact List.getElem_mem hlt)
      have hsucc := hexL_succ l k hlt
      have hl2 := hexL_length (l.take k)
      rw [List.length_take] at hl2
      obtain ⟨x, hx⟩ : ∃ x, x = l.getD k 0 := ⟨_, rfl⟩
      have hc0 := Lib.hid (fun (W : World) (h : Below w.heap.size w W) => show W.cell? ⟨b, o + k, none⟩ = some (.int .u8 x) by rw [hx]; exact pw_cell_below h (C_cell hr k hlt))
      rw [← hx] at hbk hsucc
      obtain ⟨D, hD⟩ : ∃ D, D = hexL (l.take k) := ⟨_, rfl⟩
      rw [← hD] at hsucc hl2 ⊢
      have hx0 : 0 ≤ x := hbk.1
      have hx1 : x ≤ 255 := by have := hbk.2; omega
      obtain ⟨d1, hd1⟩ : ∃ d1 : Nat, (d1 : Int) = x / 16 := ⟨(x / 16).toNat, by omega⟩
      obtain ⟨d2, hd2⟩ : ∃ d2 : Nat, (d2 : Int) = x % 16 := ⟨(x % 16).toNat, by omega⟩
      have k1 := hexk_cut d1 (by omega)
      have k2 := hexk_cut d2 (by omega)
      have hq1 := Lib.hid (show Int.tdiv x 16 = (d1 : Int) by rw [Int.tdiv_eq_ediv_of_nonneg hx0, hd1])
      have hq2 := Lib.hid (show Int.tmod x 16 = (d2 : Int) by rw [Int.tmod_eq_emod_of_nonneg hx0, hd2])
      have hw1 := Lib.hid (show IntKind.u8.wrap ((d1 : Int) + 1) = (d1 : Int) + 1 by rw [IntKind.wrap_u8]; omega)
      have hw2 := Lib.hid (show IntKind.u8.wrap ((d2 : Int) + 1) = (d2 : Int) + 1 by rw [IntKind.wrap_u8]; omega)
      have hv1 := Lib.hid (show IntKind.u8.wrap (d1 : Int) = (d1 : Int) by rw [IntKind.wrap_u8]; omega)
      have ha1 := fun W => str_add W D [hexD d1] (by simp only [List.length_singleton]; omega)
      have ha2 := fun W => str_add W (D ++ [hexD d1]) [hexD d2] (by simp only [List.length_append, List.length_singleton]; omega)
      have e12 : hexL (l.take (k + 1)) = D ++ [hexD d1] ++ [hexD d2] := by
        rw [hsucc, hex2, List.append_assoc, ← hd1, ← hd2]; rfl
      obtain ⟨S0, hS0⟩ : ∃ S, S = strOfNums D := ⟨_, rfl⟩
      obtain ⟨T1, hT1⟩ : ∃ S, S = strOfNums [hexD d1] := ⟨_, rfl⟩
      obtain ⟨T2, hT2⟩ : ∃ S, S = strOfNums [hexD d2] := ⟨_, rfl⟩
      obtain ⟨S1, hS1⟩ : ∃ S, S = strOfNums (D ++ [hexD d1]) := ⟨_, rfl⟩
      obtain ⟨S2, hS2⟩ : ∃ S, S = strOfNums (D ++ [hexD d1] ++ [hexD d2]) := ⟨_, rfl⟩
      have hS2' := Lib.hid (show S2 = strOfNums (hexL (l.take (k + 1))) by rw [hS2, e12])
      rw [← hT1] at k1
      rw [← hT2] at k2
      rw [← hS0, ← hT1, ← hS1] at ha1
      rw [← hS1, ← hT2, ← hS2] at ha2
      obtain ⟨K, hK⟩ : ∃ K, K = HEXK := ⟨_, rfl⟩
      rw [← hK] at k1 k2
      have hK' : (⟨#[48, 49, 50, 51, 52, 53, 54, 55, 56, 57, 97, 98, 99, 100, 101, 102]⟩ : ByteArray) = K := hK.symm
      rw [hK', ← hS0]
      have k1' := Lib.hid k1
      have ha1' := Lib.hid ha1
      have ha2' := Lib.hid ha2
      have k2' := Lib.hid k2
      clear ha1 ha2 k1 k2 hK hK' hS0 hT1 hT2 hS1 hS2 e12 hsucc hl2 hD hx hbk hbw hd1 hd2
      go_wp2_with fail
      refine start_ (n := 30) (S := fun w' => w'.cell? ⟨b, o + k, none⟩ = some (.int .u8 x)) (ds := []) #[false, false, false, false, false, false, false, false, false, false, false, false, false, false, false, false, false, false, false, false, false, false, false, false, false, false, false, false, false, false] (by kernel_rfl) rfl rfl (by exact (hc0.out _ (below_drew hbw'.out))) (fun hHeld => ?_)
      refine pure_ (i := 0) (N := some 12) (v := ?_) (a' := ?_) #[true, false, false, false, false, false, false, false, false, false, false, false, false, false, false, false, false, false, false, false, false, false, false, false, false, false, false, false, false, false] rfl rfl (by kernel_rfl) (fun _ _ _ h => h) (Or.inl ⟨by rfl, ?_⟩) ?_ ?_
      rotate_left
      · intro w'
        go_simp
        with_reducible rfl
      rotate_left
      · simp only [Act.put, List.setIfInBounds_toArray, List.set_cons_zero, List.set_cons_succ, i64_w, i32_w]
        rfl
      refine pure_ (i := 1) (N := some 13) (v := ?_) (a' := ?_) #[true, true, false, false, false, false, false, false, false, false, false, false, false, false, false, false, false, false, false, false, false, false, false, false, false, false, false, false, false, false] rfl rfl (by kernel_rfl) (fun _ _ _ h => h) (Or.inl ⟨by rfl, ?_⟩) ?_ ?_
      rotate_left
      · intro w'
        go_simp
        with_reducible rfl
      rotate_left
      · simp only [Act.put, List.setIfInBounds_toArray, List.set_cons_zero, List.set_cons_succ, i64_w, i32_w]
        rfl
      refine pure_ (i := 2) (N := some 14) (v := ?_) (a' := ?_) #[true, true, true, false, false, false, false, false, false, false, false, false, false, false, false, false, false, false, false, false, false, false, false, false, false, false, false, false, false, false] rfl rfl (by kernel_rfl) (fun _ _ _ h => h) (Or.inl ⟨by rfl, ?_⟩) ?_ ?_
      rotate_left
      · intro w'
        go_simp
        with_reducible rfl
      rotate_left
      · simp only [Act.put, List.setIfInBounds_toArray, List.set_cons_zero, List.set_cons_succ, i64_w, i32_w]
        rfl
      refine pure_ (i := 3) (N := some 15) (v := ?_) (a' := ?_) #[true, true, true, true, false, false, false, false, false, false, false, false, false, false, false, false, false, false, false, false, false, false, false, false, false, false, false, false, false, false] rfl rfl (by kernel_rfl) (fun _ _ _ h => h) (Or.inl ⟨by rfl, ?_⟩) ?_ ?_
      rotate_left
      · intro w'
        go_simp
        with_reducible rfl
      rotate_left
      · simp only [Act.put, List.setIfInBounds_toArray, List.set_cons_zero, List.set_cons_succ, i64_w, i32_w]
        rfl
      refine pure_ (i := 4) (N := some 16) (v := ?_) (a' := ?_) #[true, true, true, true, true, false, false, false, false, false, false, false, false, false, false, false, false, false, false, false, false, false, false, false, false, false, false, false, false, false] rfl rfl (by kernel_rfl) (fun _ _ _ h => h) (Or.inl ⟨by rfl, ?_⟩) ?_ ?_
      rotate_left
      · intro w'
        go_simp
        with_reducible rfl
      rotate_left
      · simp only [Act.put, List.setIfInBounds_toArray, List.set_cons_zero, List.set_cons_succ, i64_w, i32_w]
        rfl
      refine take_ (i := 5) (N := some 17) (v := ?_) (a' := ?_) #[true, true, true, true, true, true, false, false, false, false, false, false, false, false, false, false, false, false, false, false, false, false, false, false, false, false, false, false, false, false] rfl rfl (by kernel_rfl) (fun _ _ _ h => h) (Or.inl ⟨by rfl, ?_⟩) hHeld ?_ ?_
      rotate_left
      · intro w' hS
        have hq := hS
        go_simp
        with_reducible rfl
      rotate_left
      · simp only [Act.put, List.setIfInBounds_toArray, List.set_cons_zero, List.set_cons_succ, i64_w, i32_w]
        rfl
      refine pure_ (i := 6) (N := some 18) (v := ?_) (a' := ?_) #[true, true, true, true, true, true, true, false, false, false, false, false, false, false, false, false, false, false, false, false, false, false, false, false, false, false, false, false, false, false] rfl rfl (by kernel_rfl) (fun _ _ _ h => h) (Or.inl ⟨by rfl, ?_⟩) ?_ ?_
      rotate_left
      · intro w'
        go_simp; rw [hq1.out, hv1.out]
      rotate_left
      · simp only [Act.put, List.setIfInBounds_toArray, List.set_cons_zero, List.set_cons_succ, i64_w, i32_w]
        rfl
      refine pure_ (i := 7) (N := some 19) (v := ?_) (a' := ?_) #[true, true, true, true, true, true, true, true, false, false, false, false, false, false, false, false, false, false, false, false, false, false, false, false, false, false, false, false, false, false] rfl rfl (by kernel_rfl) (fun _ _ _ h => h) (Or.inl ⟨by rfl, ?_⟩) ?_ ?_
      rotate_left
      · intro w'
        go_simp
        with_reducible rfl
      rotate_left
      · simp only [Act.put, List.setIfInBounds_toArray, List.set_cons_zero, List.set_cons_succ, i64_w, i32_w]
        rfl
      refine pure_ (i := 8) (N := some 20) (v := ?_) (a' := ?_) #[true, true, true, true, true, true, true, true, true, false, false, false, false, false, false, false, false, false, false, false, false, false, false, false, false, false, false, false, false, false] rfl rfl (by kernel_rfl) (fun _ _ _ h => h) (Or.inl ⟨by rfl, ?_⟩) ?_ ?_
      rotate_left
      · intro w'
        go_simp
        with_reducible rfl
      rotate_left
      · simp only [Act.put, List.setIfInBounds_toArray, List.set_cons_zero, List.set_cons_succ, i64_w, i32_w]
        rfl
      refine pure_ (i := 9) (N := some 21) (v := ?_) (a' := ?_) #[true, true, true, true, true, true, true, true, true, true, false, false, false, false, false, false, false, false, false, false, false, false, false, false, false, false, false, false, false, false] rfl rfl (by kernel_rfl) (fun _ _ _ h => h) (Or.inl ⟨by rfl, ?_⟩) ?_ ?_
      rotate_left
      · intro w'
        go_simp
        with_reducible rfl
      rotate_left
      · simp only [Act.put, List.setIfInBounds_toArray, List.set_cons_zero, List.set_cons_succ, i64_w, i32_w]
        rfl
      refine take_ (i := 10) (N := some 22) (v := ?_) (a' := ?_) #[true, true, true, true, true, true, true, true, true, true, true, false, false, false, false, false, false, false, false, false, false, false, false, false, false, false, false, false, false, false] rfl rfl (by kernel_rfl) (fun _ _ _ h => h) (Or.inl ⟨by rfl, ?_⟩) hHeld ?_ ?_
      rotate_left
      · intro w' hS
        have hq := hS
        go_simp
        with_reducible rfl
      rotate_left
      · simp only [Act.put, List.setIfInBounds_toArray, List.set_cons_zero, List.set_cons_succ, i64_w, i32_w]
        rfl
      refine pure_ (i := 11) (N := some 23) (v := ?_) (a' := ?_) #[true, true, true, true, true, true, true, true, true, true, true, true, false, false, false, false, false, false, false, false, false, false, false, false, false, false, false, false, false, false] rfl rfl (by kernel_rfl) (fun _ _ _ h => h) (Or.inl ⟨by rfl, ?_⟩) ?_ ?_
      rotate_left
      · intro w'
        go_simp; rw [hq1.out, hv1.out]
      rotate_left
      · simp only [Act.put, List.setIfInBounds_toArray, List.set_cons_zero, List.set_cons_succ, i64_w, i32_w]
        rfl
      refine pure_ (i := 12) (N := some 24) (v := ?_) (a' := ?_) #[true, true, true, true, true, true, true, true, true, true, true, true, true, false, false, false, false, false, false, false, false, false, false, false, false, false, false, false, false, false] rfl rfl (by kernel_rfl) (fun _ _ _ h => h) (Or.inl ⟨by rfl, ?_⟩) ?_ ?_
      rotate_left
      · intro w'
        go_simp; rw [hw1.out]
      rotate_left
      · simp only [Act.put, List.setIfInBounds_toArray, List.set_cons_zero, List.set_cons_succ, i64_w, i32_w]
        rfl
      refine pure_ (i := 13) (N := some 25) (v := ?_) (a' := ?_) #[true, true, true, true, true, true, true, true, true, true, true, true, true, true, false, false, false, false, false, false, false, false, false, false, false, false, false, false, false, false] rfl rfl (by kernel_rfl) (fun _ _ _ h => h) (Or.inl ⟨by rfl, ?_⟩) ?_ ?_
      rotate_left
      · intro w'
        refine (exec_slice_str w' 9 Try.underlying9 _ _ _ (by rfl) (.string K) (.int .u8 (d1 : Int)) (.int .u8 ((d1 : Int) + 1)) _ (by rfl) (by rfl) (by rfl) (k1'.out w')).trans ?_; with_reducible rfl
      rotate_left
      · simp only [Act.put, List.setIfInBounds_toArray, List.set_cons_zero, List.set_cons_succ, i64_w, i32_w]
        rfl
      refine pure_ (i := 14) (N := some 26) (v := ?_) (a' := ?_) #[true, true, true, true, true, true, true, true, true, true, true, true, true, true, true, false, false, false, false, false, false, false, false, false, false, false, false, false, false, false] rfl rfl (by kernel_rfl) (fun _ _ _ h => h) (Or.inl ⟨by rfl, ?_⟩) ?_ ?_
      rotate_left
      · intro w'
        refine (exec_add w' 9 _ _ _ (by rfl) (.string S0) (.string T1) _ (by rfl) (by rfl) (ha1'.out w')).trans ?_; with_reducible rfl
      rotate_left
      · simp only [Act.put, List.setIfInBounds_toArray, List.set_cons_zero, List.set_cons_succ, i64_w, i32_w]
        rfl
      refine pure_ (i := 15) (N := some 27) (v := ?_) (a' := ?_) #[true, true, true, true, true, true, true, true, true, true, true, true, true, true, true, true, false, false, false, false, false, false, false, false, false, false, false, false, false, false] rfl rfl (by kernel_rfl) (fun _ _ _ h => h) (Or.inl ⟨by rfl, ?_⟩) ?_ ?_
      rotate_left
      · intro w'
        go_simp
        with_reducible rfl
      rotate_left
      · simp only [Act.put, List.setIfInBounds_toArray, List.set_cons_zero, List.set_cons_succ, i64_w, i32_w]
        rfl
      refine pure_ (i := 16) (N := some 28) (v := ?_) (a' := ?_) #[true, true, true, true, true, true, true, true, true, true, true, true, true, true, true, true, true, false, false, false, false, false, false, false, false, false, false, false, false, false] rfl rfl (by kernel_rfl) (fun _ _ _ h => h) (Or.inl ⟨by rfl, ?_⟩) ?_ ?_
      rotate_left
      · intro w'
        go_simp
        with_reducible rfl
      rotate_left
      · simp only [Act.put, List.setIfInBounds_toArray, List.set_cons_zero, List.set_cons_succ, i64_w, i32_w]
        rfl
      refine pure_ (i := 17) (N := some 29) (v := ?_) (a' := ?_) #[true, true, true, true, true, true, true, true, true, true, true, true, true, true, true, true, true, true, false, false, false, false, false, false, false, false, false, false, false, false] rfl rfl (by kernel_rfl) (fun _ _ _ h => h) (Or.inl ⟨by rfl, ?_⟩) ?_ ?_
      rotate_left
      · intro w'
        go_simp
        with_reducible rfl
      rotate_left
      · simp only [Act.put, List.setIfInBounds_toArray, List.set_cons_zero, List.set_cons_succ, i64_w, i32_w]
        rfl
      refine pure_ (i := 18) (N := some 30) (v := ?_) (a' := ?_) #[true, true, true, true, true, true, true, true, true, true, true, true, true, true, true, true, true, true, true, false, false, false, false, false, false, false, false, false, false, false] rfl rfl (by kernel_rfl) (fun _ _ _ h => h) (Or.inl ⟨by rfl, ?_⟩) ?_ ?_
      rotate_left
      · intro w'
        go_simp
        with_reducible rfl
      rotate_left
      · simp only [Act.put, List.setIfInBounds_toArray, List.set_cons_zero, List.set_cons_succ, i64_w, i32_w]
        rfl
      refine take_ (i := 19) (N := some 31) (v := ?_) (a' := ?_) #[true, true, true, true, true, true, true, true, true, true, true, true, true, true, true, true, true, true, true, true, false, false, false, false, false, false, false, false, false, false] rfl rfl (by kernel_rfl) (fun _ _ _ h => h) (Or.inl ⟨by rfl, ?_⟩) hHeld ?_ ?_
      rotate_left
      · intro w' hS
        have hq := hS
        go_simp
        with_reducible rfl
      rotate_left
      · simp only [Act.put, List.setIfInBounds_toArray, List.set_cons_zero, List.set_cons_succ, i64_w, i32_w]
        rfl
      refine pure_ (i := 20) (N := some 32) (v := ?_) (a' := ?_) #[true, true, true, true, true, true, true, true, true, true, true, true, true, true, true, true, true, true, true, true, true, false, false, false, false, false, false, false, false, false] rfl rfl (by kernel_rfl) (fun _ _ _ h => h) (Or.inl ⟨by rfl, ?_⟩) ?_ ?_
      rotate_left
      · intro w'
        go_simp; rw [hq2.out]
      rotate_left
      · simp only [Act.put, List.setIfInBounds_toArray, List.set_cons_zero, List.set_cons_succ, i64_w, i32_w]
        rfl
      refine pure_ (i := 21) (N := some 33) (v := ?_) (a' := ?_) #[true, true, true, true, true, true, true, true, true, true, true, true, true, true, true, true, true, true, true, true, true, true, false, false, false, false, false, false, false, false] rfl rfl (by kernel_rfl) (fun _ _ _ h => h) (Or.inl ⟨by rfl, ?_⟩) ?_ ?_
      rotate_left
      · intro w'
        go_simp
        with_reducible rfl
      rotate_left
      · simp only [Act.put, List.setIfInBounds_toArray, List.set_cons_zero, List.set_cons_succ, i64_w, i32_w]
        rfl
      refine pure_ (i := 22) (N := some 34) (v := ?_) (a' := ?_) #[true, true, true, true, true, true, true, true, true, true, true, true, true, true, true, true, true, true, true, true, true, true, true, false, false, false, false, false, false, false] rfl rfl (by kernel_rfl) (fun _ _ _ h => h) (Or.inl ⟨by rfl, ?_⟩) ?_ ?_
      rotate_left
      · intro w'
        go_simp
        with_reducible rfl
      rotate_left
      · simp only [Act.put, List.setIfInBounds_toArray, List.set_cons_zero, List.set_cons_succ, i64_w, i32_w]
        rfl
      refine pure_ (i := 23) (N := some 35) (v := ?_) (a' := ?_) #[true, true, true, true, true, true, true, true, true, true, true, true, true, true, true, true, true, true, true, true, true, true, true, true, false, false, false, false, false, false] rfl rfl (by kernel_rfl) (fun _ _ _ h => h) (Or.inl ⟨by rfl, ?_⟩) ?_ ?_
      rotate_left
      · intro w'
        go_simp
        with_reducible rfl
      rotate_left
      · simp only [Act.put, List.setIfInBounds_toArray, List.set_cons_zero, List.set_cons_succ, i64_w, i32_w]
        rfl
      refine take_ (i := 24) (N := some 36) (v := ?_) (a' := ?_) #[true, true, true, true, true, true, true, true, true, true, true, true, true, true, true, true, true, true, true, true, true, true, true, true, true, false, false, false, false, false] rfl rfl (by kernel_rfl) (fun _ _ _ h => h) (Or.inl ⟨by rfl, ?_⟩) hHeld ?_ ?_
      rotate_left
      · intro w' hS
        have hq := hS
        go_simp
        with_reducible rfl
      rotate_left
      · simp only [Act.put, List.setIfInBounds_toArray, List.set_cons_zero, List.set_cons_succ, i64_w, i32_w]
        rfl
      refine pure_ (i := 25) (N := some 37) (v := ?_) (a' := ?_) #[true, true, true, true, true, true, true, true, true, true, true, true, true, true, true, true, true, true, true, true, true, true, true, true, true, true, false, false, false, false] rfl rfl (by kernel_rfl) (fun _ _ _ h => h) (Or.inl ⟨by rfl, ?_⟩) ?_ ?_
      rotate_left
      · intro w'
        go_simp; rw [hq2.out]
      rotate_left
      · simp only [Act.put, List.setIfInBounds_toArray, List.set_cons_zero, List.set_cons_succ, i64_w, i32_w]
        rfl
      refine pure_ (i := 26) (N := some 38) (v := ?_) (a' := ?_) #[true, true, true, true, true, true, true, true, true, true, true, true, true, true, true, true, true, true, true, true, true, true, true, true, true, true, true, false, false, false] rfl rfl (by kernel_rfl) (fun _ _ _ h => h) (Or.inl ⟨by rfl, ?_⟩) ?_ ?_
      rotate_left
      · intro w'
        go_simp; rw [hw2.out]
      rotate_left
      · simp only [Act.put, List.setIfInBounds_toArray, List.set_cons_zero, List.set_cons_succ, i64_w, i32_w]
        rfl
      refine pure_ (i := 27) (N := some 39) (v := ?_) (a' := ?_) #[true, true, true, true, true, true, true, true, true, true, true, true, true, true, true, true, true, true, true, true, true, true, true, true, true, true, true, true, false, false] rfl rfl (by kernel_rfl) (fun _ _ _ h => h) (Or.inl ⟨by rfl, ?_⟩) ?_ ?_
      rotate_left
      · intro w'
        refine (exec_slice_str w' 9 Try.underlying9 _ _ _ (by rfl) (.string K) (.int .u8 (d2 : Int)) (.int .u8 ((d2 : Int) + 1)) _ (by rfl) (by rfl) (by rfl) (k2'.out w')).trans ?_; with_reducible rfl
      rotate_left
      · simp only [Act.put, List.setIfInBounds_toArray, List.set_cons_zero, List.set_cons_succ, i64_w, i32_w]
        rfl
      refine pure_ (i := 28) (N := some 40) (v := ?_) (a' := ?_) #[true, true, true, true, true, true, true, true, true, true, true, true, true, true, true, true, true, true, true, true, true, true, true, true, true, true, true, true, true, false] rfl rfl (by kernel_rfl) (fun _ _ _ h => h) (Or.inl ⟨by rfl, ?_⟩) ?_ ?_
      rotate_left
      · intro w'
        refine (exec_add w' 9 _ _ _ (by rfl) (.string S1) (.string T2) _ (by rfl) (by rfl) (ha2'.out w')).trans ?_; with_reducible rfl
      rotate_left
      · simp only [Act.put, List.setIfInBounds_toArray, List.set_cons_zero, List.set_cons_succ, i64_w, i32_w]
        rfl
      refine pure_ (i := 29) (N := some 4) (v := ?_) (a' := ?_) #[true, true, true, true, true, true, true, true, true, true, true, true, true, true, true, true, true, true, true, true, true, true, true, true, true, true, true, true, true, true] rfl rfl (by kernel_rfl) (fun _ _ _ h => h) (Or.inl ⟨by rfl, ?_⟩) ?_ ?_
      rotate_left
      · intro w'
        go_simp
        with_reducible rfl
      rotate_left
      · simp only [Act.put, List.setIfInBounds_toArray, List.set_cons_zero, List.set_cons_succ, i64_w, i32_w]
        rfl
      refine done_ (by kernel_rfl) ?_
      go_wp2_with fail
      refine ⟨⟨k + 1, by omega, by go_num, by rw [hS2'.out], below_drew hbw'.out⟩, ?measure⟩
      case measure => simp [intOf]; omega
    · obtain rfl : k = l.length := by omega
      rw [List.take_length]
      clear hlt hk hbw
      go_wp2_with fail
      go_ret
      exact ⟨rfl, hbw'.out⟩
instance (x : Int) : Decidable (byt x) := by unfold byt; infer_instance
def octet_Hex.f (l : List Int) : Option ByteArray := if l.length ≤ 1099511627776 ∧ ∀ x ∈ l, byt x then some (strOfNums (hexL l)) else none
theorem octet_Hex.calls (A0 : Option Addr) (c0 : Nat) (l0 : List Int) (r : ByteArray) (w : World) (hr0 : Kd.C (Kd.int .u8) w A0 l0.length l0) (hc0 : l0.length ≤ c0) (h : octet_Hex.f l0 = some r) :
    Calls Try.prog 95 #[.slice A0 l0.length c0] w fun e w' => e = .returned (.string r) ∧ Below w.heap.size w w' := by
  unfold octet_Hex.f at h
  by_cases h1 : l0.length ≤ 1099511627776 ∧ ∀ x ∈ l0, byt x
  · rw [if_pos h1] at h
    obtain rfl := Option.some.inj h
    exact hex_any A0 c0 l0 w hr0 hc0 h1.1 h1.2
  · rw [if_neg h1] at h; cases h
def nepentheref01_Hex.f (l : List Int) : Option ByteArray := if l.length ≤ 1099511627776 ∧ ∀ x ∈ l, byt x then some (strOfNums (hexL l)) else none
theorem nepentheref01_Hex.calls (A0 : Option Addr) (c0 : Nat) (l0 : List Int) (r : ByteArray) (w : World) (hr0 : Kd.C (Kd.int .u8) w A0 l0.length l0) (hc0 : l0.length ≤ c0) (h : nepentheref01_Hex.f l0 = some r) :
    Calls Try.prog 76 #[.slice A0 l0.length c0] w fun e w' => e = .returned (.string r) ∧ Below w.heap.size w w' := by
  unfold nepentheref01_Hex.f at h
  by_cases h1 : l0.length ≤ 1099511627776 ∧ ∀ x ∈ l0, byt x
  · rw [if_pos h1] at h
    obtain rfl := Option.some.inj h
    exact refHex_any A0 c0 l0 w hr0 hc0 h1.1 h1.2
  · rw [if_neg h1] at h; cases h
end Go.Proofs.Ytiogdomjmjiahaa.Own
