/- WrC, pruned (slim.py). -/
import Derived.Test.YtiogdomjmjiahaaZC20
import Derived.Test.YtiogdomjmjiahaaZC26
import Derived.Test.YtiogdomjmjiahaaZC11
import Derived.Lib.ConvBytes
import Derived.Lib.Bytes
namespace Go.Proofs.Ytiogdomjmjiahaa.Own
open Go.RowKit Go.Proofs.Ytiogdomjmjiahaa.Arr Go.Proofs.Ytiogdomjmjiahaa.QA Go.Proofs.Ytiogdomjmjiahaa.QB Go.Proofs.Ytiogdomjmjiahaa.QC Go.Proofs.YtiogdomjmjiahaaW.PrintWords Go.Proofs.YtiogdomjmjiahaaW.PrintLast Go.Proofs.YtiogdomjmjiahaaW.PrintMore
set_option linter.unusedVariables false
set_option linter.unusedSimpArgs false
def hexW (l : List Int) : List Int := if l.length = 0 then [45] else hexL l
theorem hexW_len (l : List Int) : (hexW l).length ≤ 2 * l.length + 1 := by
  unfold hexW; split
  · simp
  · rw [hexL_length]; omega
theorem hexW_byt (l : List Int) (h : ∀ x ∈ l, byt x) : ∀ x ∈ hexW l, byt x := by
  unfold hexW; split
  · intro x hx; simp at hx; subst hx; exact ⟨by omega, by omega⟩
  · exact hexL_byt l h
theorem hex_eq (l : List Int) (h : ∀ x ∈ l, byt x) (hl : l.length ≤ 1000000) : console_hex.f l = some (strOfNums (hexW l)) := by
  unfold console_hex.f hexW
  by_cases h0 : l.length = 0
  · rw [if_pos (by omega), if_pos h0]; rfl
  · rw [if_neg (by omega), if_neg h0]
    unfold octet_Hex.f
    rw [if_pos ⟨by omega, h⟩]; rfl
def nameL (a : Int) : List Int := (nameB a).data.toList.map fun b => (b.toNat : Int)
theorem nameL_eq (a : Int) : strOfNums (nameL a) = nameB a := by
  unfold nameL strOfNums
  apply ByteArray.ext
  rw [List.map_map]
  have : ((fun n : Int => UInt8.ofNat n.toNat) ∘ fun b : UInt8 => (b.toNat : Int)) = id := by funext b; simp
  rw [this, List.map_id]
theorem nameL_byt (a : Int) : ∀ x ∈ nameL a, byt x := by
  intro x hx
  unfold nameL at hx
  obtain ⟨b, -, rfl⟩ := List.mem_map.1 hx
  have := b.toNat_lt
  exact ⟨by omega, by omega⟩
def asksL (a : Int) : List Int := if a = 1 ∨ a = 14 then [112, 100] else if a = 2 then [112] else if a = 4 ∨ a = 7 then [110, 108, 100] else if a = 6 ∨ a = 8 then [110, 108, 99] else if a = 5 ∨ a = 11 ∨ a = 12 then [110] else if a = 15 then [99] else []
theorem asksL_len (a : Int) : (asksL a).length ≤ 3 := by
  unfold asksL
  repeat' split
  all_goals simp
theorem asksL_byt (a : Int) : ∀ x ∈ asksL a, byt x := by
  have : ∀ x ∈ asksL a, x = 112 ∨ x = 100 ∨ x = 110 ∨ x = 108 ∨ x = 99 := by
    unfold asksL
    repeat' split
    all_goals simp
  intro x hx
  rcases this x hx with rfl | rfl | rfl | rfl | rfl <;> exact ⟨by omega, by omega⟩
theorem kinds15 (a : Int) (h1 : 1 ≤ a) (h2 : a ≤ 15) : a = 1 ∨ a = 2 ∨ a = 3 ∨ a = 4 ∨ a = 5 ∨ a = 6 ∨ a = 7 ∨ a = 8 ∨ a = 9 ∨ a = 10 ∨ a = 11 ∨ a = 12 ∨ a = 13 ∨ a = 14 ∨ a = 15 := by omega
theorem asks_eq (a : Int) (h1 : 1 ≤ a) (h2 : a ≤ 15) : console_asks.f 9 a = some (strOfNums (asksL a)) := by
  rcases kinds15 a h1 h2 with rfl | rfl | rfl | rfl | rfl | rfl | rfl | rfl | rfl | rfl | rfl | rfl | rfl | rfl | rfl <;> rfl
theorem nameL_len (a : Int) (h1 : 1 ≤ a) (h2 : a ≤ 15) : 0 < (nameL a).length ∧ (nameL a).length ≤ 20 ∧ (nameL a).getD ((nameL a).length - 1) 0 ≠ 10 := by
  rcases kinds15 a h1 h2 with rfl | rfl | rfl | rfl | rfl | rfl | rfl | rfl | rfl | rfl | rfl | rfl | rfl | rfl | rfl <;> decide +kernel
def wStep (a1 a2 a3 : Int) (P D : List Int) (s : List Int × Bool) (x : Int) : List Int × Bool :=
  if x = 110 then numW s a1 else if x = 108 then numW s a2 else if x = 99 then numW s a3 else if x = 112 then (wordL s.1 (hexW P), s.2) else if x = 100 then (wordL s.1 (hexW D), s.2) else s
theorem wordL_len (b m : List Int) : (wordL b m).length ≤ b.length + m.length + 1 := by
  unfold wordL sepL; split <;> simp <;> omega
theorem numW_len (s : List Int × Bool) (n : Int) : (numW s n).1.length ≤ s.1.length + 22 := by
  unfold numW; split
  · have := wordL_len s.1 (numLs n); have := numLs_len n; simp only; omega
  · simp only; omega
theorem wStep_len (a1 a2 a3 : Int) (P D : List Int) (hP : P.length ≤ 1000000) (hD : D.length ≤ 1000000) (s : List Int × Bool) (x : Int) : (wStep a1 a2 a3 P D s x).1.length ≤ s.1.length + 2000100 := by
  unfold wStep
  have := numW_len s a1; have := numW_len s a2; have := numW_len s a3
  have := wordL_len s.1 (hexW P); have := wordL_len s.1 (hexW D); have := hexW_len P; have := hexW_len D
  repeat' split
  all_goals (first | omega | (show (wordL _ _).length ≤ _; omega))
def wCmd (a0 a1 a2 a3 : Int) (P D : List Int) (s : List Int × Bool) : List Int × Bool :=
  if 1 ≤ a0 ∧ a0 ≤ 15 then (asksL a0).foldl (wStep a1 a2 a3 P D) (wordL s.1 (nameL a0), s.2) else (s.1, true)
theorem own_ne2 {w : World} {base g k : Nat} {b : List Int} {bad : Bool} (h : WrAt base g w b bad) {cs : Array Value} {t : TypeId} {fr : Nat × Nat} (hk : w.heap[k]? = some (.cells cs t fr)) (ht : t ≠ 5) : rowOf w g ≠ some k := by
  obtain ⟨v, hg, ho⟩ := h.at_
  rw [rowOf_eq hg]
  intro e
  exact own_ne ho hk ht k e rfl
theorem own_lt {w : World} {base g : Nat} {b : List Int} {bad : Bool} (h : WrAt base g w b bad) (k : Nat) (hk : w.heap.size ≤ k) : rowOf w g ≠ some k := by
  obtain ⟨v, hg, ho⟩ := h.at_
  rw [rowOf_eq hg]
  intro e
  have := (ho.lt k e).2
  omega
theorem WrAt.bad_ {base g : Nat} {w : World} {b : List Int} {bad : Bool} (h : WrAt base g w b bad) : WrPost base g w b true (.returned (.tuple #[])) (w.setCell ⟨g, 1, none⟩ (.bool true)) := by
  obtain ⟨v, hg, ho⟩ := h.at_
  refine ⟨rfl, ⟨h.lo, by simpa [World.setCell] using h.le, v, heap_setCell_same w g 1 _ _ _ hg, own_move ho (fun k hk => heap_setCell_other _ ⟨g, 1, none⟩ _ _ (own_ne ho hg (by decide) k hk))⟩, (Below.refl _ _).setCell (p := ⟨g, 1, none⟩) h.lo _, ?_⟩
  refine ⟨by simp [World.setCell], fun k hk hkg hr => heap_setCell_other _ ⟨g, 1, none⟩ _ _ hkg, fun k hk => Or.inl ?_⟩
  rw [rowOf_eq (v := v) (c := .bool true) (heap_setCell_same w g 1 _ _ _ hg)] at hk
  rw [rowOf_eq hg]; exact hk
set_option maxHeartbeats 4000000 in
set_option maxRecDepth 100000 in
theorem wcommand_bad (base g : Nat) (w : World) (b : List Int) (bad : Bool) (a0 a1 a2 a3 : Int) (A : Option Addr) (n c : Nat) (B : Option Addr) (m d : Nat) (h : WrAt base g w b bad) (h0 : ¬ (1 ≤ a0 ∧ a0 ≤ 15)) :
    Calls Try.prog 73 #[.pointer (some ⟨g, 0, none⟩), .agg (ccs a0 a1 a2 a3 A n c B m d)] w (WrPost base g w b true) := by
  obtain ⟨w0, hw0⟩ : ∃ w0, w0 = w.alloc (.cells (ccs a0 a1 a2 a3 A n c B m d) 27 (0, 0)) := ⟨_, rfl⟩
  have hb := Lib.hid (show Below w.heap.size w w0 by rw [hw0]; exact (Below.refl _ _).alloc (Nat.le_refl _) _)
  have hlt := Lib.hid (by obtain ⟨v, hg, _⟩ := h.at_; exact lt_of_heap hg : g < w.heap.size)
  have h1 := h.keep hb.out
  have hp := h1.bad_
  obtain ⟨v, hg, ho⟩ := h1.at_
  have c1 : w0.cell? ⟨g, 1, none⟩ = some (.bool bad) := (blk_cell hg 1).trans rfl
  have f1 := blk_frozen hg 1
  have ck : w0.cell? ⟨w.heap.size, 0, none⟩ = some (.int .i64 a0) := by rw [hw0]; exact (blk_cell (heap_alloc_last w _) 0).trans rfl
  have hfin := Lib.hid (show WrPost base g w b true (.returned (.tuple #[])) (w0.setCell ⟨g, 1, none⟩ (.bool true)) from ⟨rfl, hp.2.1, (hb.out.mono h.le).trans hp.2.2.1, (Wk.below hb.out hlt.out).trans hp.2.2.2⟩)
  have hor : a0 < 1 ∨ (¬ a0 < 1 ∧ 15 < a0) := by omega
  rw [hw0] at c1 f1 ck hfin
  clear hw0 hb h1 hp hg ho h h0 hlt
  rcases hor with h0 | ⟨h0, h1⟩
  · go_enter Try.func73, Try.ntmps73
    go_wp2
    go_end0
    exact hfin.out
  · go_enter Try.func73, Try.ntmps73
    go_wp2
    go_end0
    exact hfin.out
structure BlkAt (g k : Nat) (o : Obj) (W : World) : Prop where
  at_ : W.heap[k]? = some o
  ne : k ≠ g
  nr : rowOf W g ≠ some k
theorem BlkAt.keep {g k : Nat} {o : Obj} {W w : World} (h : BlkAt g k o W) (q : Wk g W w) : BlkAt g k o w := by
  refine ⟨(q.blk k (lt_of_heap h.at_) h.ne h.nr).trans h.at_, h.ne, fun e => ?_⟩
  rcases q.row _ e with h1 | h1
  · exact h.nr h1
  · have := lt_of_heap h.at_; omega
theorem below_bytes (w : World) (e : TypeId) (s : ByteArray) : Below w.heap.size w (Lib.bytesWorld w e s) :=
  ⟨rfl, rfl, rfl, by rw [Lib.bytesWorld_size]; omega, fun k hk => Lib.bytesWorld_at_old w e s k hk⟩
theorem ccs6 {a0 a1 a2 a3 : Int} {A B : Option Addr} {n c m d : Nat} {w : World} {g : Nat} {t : TypeId} (h : w.heap[g]? = some (.cells (ccs a0 a1 a2 a3 A n c B m d) t (0, 0))) :
    w.cell? ⟨g, 0, none⟩ = some (.int .i64 a0) ∧ w.cell? ⟨g, 1, none⟩ = some (.int .i64 a1) ∧ w.cell? ⟨g, 2, none⟩ = some (.int .i64 a2) ∧ w.cell? ⟨g, 3, none⟩ = some (.int .i64 a3) ∧ w.cell? ⟨g, 4, none⟩ = some (.slice A n c) ∧ w.cell? ⟨g, 5, none⟩ = some (.slice B m d) :=
  ⟨(blk_cell h 0).trans rfl, (blk_cell h 1).trans rfl, (blk_cell h 2).trans rfl, (blk_cell h 3).trans rfl, (blk_cell h 4).trans rfl, (blk_cell h 5).trans rfl⟩
theorem WrAt.lt {base g : Nat} {w : World} {b : List Int} {bad : Bool} (h : WrAt base g w b bad) : g < w.heap.size := by obtain ⟨v, hg, _⟩ := h.at_; exact lt_of_heap hg
set_option maxHeartbeats 8000000 in
set_option maxRecDepth 100000 in
theorem wcommand_good (base g : Nat) (w : World) (b : List Int) (bad : Bool) (a0 a1 a2 a3 : Int) (A : Option Addr) (c : Nat) (P : List Int) (B : Option Addr) (d : Nat) (D : List Int) (h : WrAt base g w b bad) (h0 : 1 ≤ a0) (h1 : a0 ≤ 15)
    (hP : ∀ w', Below base w w' → Kd.C (Kd.int .u8) w' A P.length P) (hc : P.length ≤ c) (hPb : ∀ x ∈ P, byt x) (hPl : P.length ≤ 1000000)
    (hD : ∀ w', Below base w w' → Kd.C (Kd.int .u8) w' B D.length D) (hd : D.length ≤ d) (hDb : ∀ x ∈ D, byt x) (hDl : D.length ≤ 1000000) (hbl : b.length ≤ 10000000000) :
    Calls Try.prog 73 #[.pointer (some ⟨g, 0, none⟩), .agg (ccs a0 a1 a2 a3 A P.length c B D.length d)] w (WrPost base g w ((asksL a0).foldl (wStep a1 a2 a3 P D) (wordL b (nameL a0), bad)).1 ((asksL a0).foldl (wStep a1 a2 a3 P D) (wordL b (nameL a0), bad)).2) := by
  obtain ⟨wb, hwb⟩ : ∃ wb, wb = w.alloc (.cells (ccs a0 a1 a2 a3 A P.length c B D.length d) 27 (0, 0)) := ⟨_, rfl⟩
  have hb := Lib.hid (show Below w.heap.size w wb by rw [hwb]; exact (Below.refl _ _).alloc (Nat.le_refl _) _)
  have hle := Lib.hid h.le
  have hlt := Lib.hid h.lt
  have hat0 := Lib.hid (h.keep hb.out)
  have hgc0 := Lib.hid (show wb.heap[w.heap.size]? = some (.cells (ccs a0 a1 a2 a3 A P.length c B D.length d) 27 (0, 0)) by rw [hwb]; exact heap_alloc_last w _)
  have hk0 := Lib.hid (show BlkAt g w.heap.size (.cells (ccs a0 a1 a2 a3 A P.length c B D.length d) 27 (0, 0)) wb from ⟨hgc0.out, Nat.ne_of_gt h.lt, own_ne2 hat0.out hgc0.out (by decide)⟩)
  have ck0 : wb.cell? ⟨w.heap.size, 0, none⟩ = some (.int .i64 a0) := (blk_cell hgc0.out 0).trans rfl
  have k0 : ¬ a0 < 1 := by omega
  have k1 : ¬ 15 < a0 := by omega
  have hname := Lib.hid (fun w1 => command_Name.calls a0 (nameB a0) w1 rfl)
  have hasks := Lib.hid (fun w1 => console_asks.calls 9 a0 _ w1 (asks_eq a0 h0 h1))
  have hwordn := Lib.hid (fun (w1 : World) (hw : WrAt base g w1 b bad) => word_any base g w1 b (nameL a0) bad hw (nameL_byt a0) (by have := (nameL_len a0 h0 h1).2.1; omega))
  rw [nameL_eq] at hwordn
  have hhexP := Lib.hid (fun w1 (h : Below base w w1) => console_hex.calls A c P _ w1 (hP w1 h) hc (hex_eq P hPb hPl))
  have hhexD := Lib.hid (fun w1 (h : Below base w w1) => console_hex.calls B d D _ w1 (hD w1 h) hd (hex_eq D hDb hDl))
  have hwordP := Lib.hid (fun (w1 : World) (b : List Int) (bad : Bool) (hw : WrAt base g w1 b bad) (hl : b.length ≤ 20000000000) => word_any base g w1 b (hexW P) bad hw (hexW_byt P hPb) (by have := hexW_len P; omega))
  have hwordD := Lib.hid (fun (w1 : World) (b : List Int) (bad : Bool) (hw : WrAt base g w1 b bad) (hl : b.length ≤ 20000000000) => word_any base g w1 b (hexW D) bad hw (hexW_byt D hDb) (by have := hexW_len D; omega))
  have hstep := Lib.hid (fun s x => wStep_len a1 a2 a3 P D hPl hDl s x)
  have hnum := Lib.hid (fun (w1 : World) (b : List Int) (n : Int) (bad : Bool) (hw : WrAt base g w1 b bad) (hl : b.length ≤ 20000000000) => wnumber_any base g w1 b n bad hw (by omega))
  obtain ⟨b1, hb1⟩ : ∃ b1, b1 = wordL b (nameL a0) := ⟨_, rfl⟩
  have hb1l := Lib.hid (show b1.length ≤ 10000000100 by rw [hb1]; have := wordL_len b (nameL a0); have := (nameL_len a0 h0 h1).2.1; omega)
  rw [← hb1] at hwordn ⊢
  obtain ⟨m, hm⟩ : ∃ m, m = asksL a0 := ⟨_, rfl⟩
  have hmb : ∀ x ∈ m, byt x := by rw [hm]; exact asksL_byt a0
  have hml : m.length ≤ 3 := by rw [hm]; exact asksL_len a0
  rw [← hm] at hasks ⊢
  obtain ⟨S, hS⟩ : ∃ S, S = strOfNums m := ⟨_, rfl⟩
  have hSs : S.size = m.length := by rw [hS, strOfNums_size]
  have hScell := Lib.hid (show ∀ (W : World) (k : Nat), k < m.length → (Lib.bytesCells W 5 S)[k]? = some (.int .u8 (m.getD k 0)) by
    intro W k hk
    have := Lib.bytesWorld_cell W 5 S k (by rw [hSs]; exact hk)
    rw [cell_of_row _ _ _ _ _ _ (Lib.bytesWorld_at_new W 5 S)] at this
    rw [this, hS, strOfNums_data]
    have hx := hmb m[k] (List.getElem_mem hk)
    simp only [List.getD_eq_getElem?_getD, List.getElem?_map, List.getElem?_eq_getElem hk, Option.map_some, Option.getD_some]
    rw [UInt8.toNat_ofNat']
    obtain ⟨x0, x1⟩ := hx
    congr 2
    omega)
  rw [← hS] at hasks
  have hconv : ∀ W : World, (convert 9 25 (.string S)).run Try.prog W = .ok (.slice (some ⟨W.heap.size, 0, none⟩) m.length (grownCap W m.length 0 5)) (Lib.bytesWorld W 5 S) := by
    intro W
    have := Lib.run_convert_string_bytes (P := Try.prog) W 9 25 5 S Try.underlying9 Try.underlying25 Try.underlying5
    rw [hSs] at this
    exact this
  obtain ⟨N, hN⟩ : ∃ N, N = nameB a0 := ⟨_, rfl⟩
  rw [← hN] at hname hwordn
  obtain ⟨SP, hSP⟩ : ∃ SP, SP = strOfNums (hexW P) := ⟨_, rfl⟩
  obtain ⟨SD, hSD⟩ : ∃ SD, SD = strOfNums (hexW D) := ⟨_, rfl⟩
  rw [← hSP] at hhexP hwordP
  rw [← hSD] at hhexD hwordD
  have hml' := Lib.hid hml
  rw [hwb] at ck0
  clear h hS hSs hm hmb hml hb1 hN hP hD hc hd hPb hDb hPl hDl h0 h1 hbl hSP hSD
  go_enter Try.func73, Try.ntmps73
  go_wp2_with (first
    | ((with_reducible go_at_call 13); rw [← hwb]; rw [← hwb] at ck0; refine (hname.out _).mono ?_; rintro e w1 ⟨rfl, hd1⟩; have q1 := Lib.hid hd1.below; clear hd1 ck0)
    | ((with_reducible go_at_call 92); refine (hwordn.out _ (hat0.out.keep q1.out)).mono ?_; rintro e w2 ⟨rfl, hat, hbl, hwk⟩; have hat2 := Lib.hid hat; have hbl2 := Lib.hid (show Below base w w2 from ((hb.out.trans (q1.out.mono hb.out.size)).mono hle.out).trans hbl); have hwk2 := Lib.hid (show Wk g w w2 from (Wk.below (hb.out.trans (q1.out.mono hb.out.size)) hlt.out).trans hwk); have hk2 := Lib.hid ((hk0.out.keep (Wk.below q1.out hat0.out.lt)).keep hwk); have ck2 := (ccs6 hk2.out.at_).1; clear hat hbl hwk hwordn hname)
    | ((with_reducible go_at_call 93); refine (hasks.out _).mono ?_; rintro e w3 ⟨rfl, hd1⟩; have q3 := Lib.hid hd1.below; clear hd1 ck2 hasks))
  have q4 := Lib.hid (below_step q3.out (below_bytes w3 5 S))
  have hat4 := Lib.hid (hat2.out.keep q4.out)
  have hk4 := Lib.hid (hk2.out.keep (Wk.below q4.out hat2.out.lt))
  have hbl4 := Lib.hid (hbl2.out.trans (q4.out.mono hat2.out.le))
  have hwk4 := Lib.hid (hwk2.out.trans (Wk.below q4.out hat2.out.lt))
  have hr4 := Lib.hid (show BlkAt g w3.heap.size (.cells (Lib.bytesCells w3 5 S) 5 ((Lib.bytesCells w3 5 S).size, (Lib.bytesCells w3 5 S).size + 1)) (Lib.bytesWorld w3 5 S) from
    ⟨Lib.bytesWorld_at_new w3 5 S, Nat.ne_of_gt (Nat.lt_of_lt_of_le hat2.out.lt q3.out.size), by
      have h3 := hat2.out.keep q3.out
      obtain ⟨v, hg, ho⟩ := h3.at_
      rw [rowOf_eq ((Lib.bytesWorld_at_old w3 5 S g (lt_of_heap hg)).trans hg)]
      intro e
      have := (ho.lt _ e).2
      omega⟩)
  obtain ⟨gr, hgr⟩ : ∃ gr, gr = w3.heap.size := ⟨_, rfl⟩
  have hcell4 := Lib.hid (show ∀ W : World, W.heap[gr]? = some (.cells (Lib.bytesCells w3 5 S) 5 ((Lib.bytesCells w3 5 S).size, (Lib.bytesCells w3 5 S).size + 1)) → ∀ k, k < m.length → W.cell? ⟨gr, k, none⟩ = some (.int .u8 (m.getD k 0)) from fun W hW k hk => (cell_of_row W gr k _ _ _ hW).trans (hScell.out w3 k hk))
  obtain ⟨cap4, hcap4⟩ : ∃ cap4, cap4 = grownCap w3 m.length 0 5 := ⟨_, rfl⟩
  rw [← hcap4]
  rw [← hgr] at hr4 ⊢
  clear hcap4 q4 hat2 hk2 hbl2 hwk2 hconv hScell q1 hgr
  generalize Lib.bytesWorld w3 5 S = w4 at *
  generalize (Obj.cells (Lib.bytesCells w3 5 S) 5 ((Lib.bytesCells w3 5 S).size, (Lib.bytesCells w3 5 S).size + 1)) = OR at *
  clear q3 w3 w2 w1
  obtain ⟨F, hF⟩ : ∃ F : Nat → List Int × Bool, F = fun k => (m.take k).foldl (wStep a1 a2 a3 P D) (b1, bad) := ⟨_, rfl⟩
  have hF0 : F 0 = (b1, bad) := by rw [hF]; rfl
  have hFn : m.foldl (wStep a1 a2 a3 P D) (b1, bad) = F m.length := by rw [hF]; show _ = List.foldl _ _ (m.take m.length); rw [List.take_length]
  have hFs : ∀ k, k < m.length → F (k + 1) = wStep a1 a2 a3 P D (F k) (m.getD k 0) := by
    intro k hk
    rw [hF]
    simp only [List.take_succ_eq_append_getElem hk, List.foldl_append, List.foldl_cons, List.foldl_nil, List.getD_eq_getElem?_getD, List.getElem?_eq_getElem hk, Option.getD_some]
  rw [hFn]
  have hF0' := Lib.hid hF0
  have hFs' := Lib.hid hFs
  clear hF hF0 hFn hFs
  go_loopw [27] (fun i wr => ∃ k : Nat, k ≤ m.length ∧ i = .int .i64 k ∧ WrAt base g wr (F k).1 (F k).2 ∧ BlkAt g w.heap.size (.cells (ccs a0 a1 a2 a3 A P.length c B D.length d) 27 (0, 0)) wr ∧ BlkAt g gr OR wr ∧ Below base w wr ∧ Wk g w wr ∧ (F k).1.length ≤ 10000000100 + k * 2000100) (fun i _ => m.length - (intOf i).toNat)
  case atStart => exact ⟨0, Nat.zero_le _, rfl, by rw [hF0'.out]; exact hat4.out, hk4.out, hr4.out, hbl4.out, hwk4.out, by rw [hF0'.out]; have := hb1l.out; simp only; omega⟩
  case round =>
    obtain ⟨k, hk, rfl, hat, hkc, hkr, hbl, hwk, hfl⟩ := hrel
    by_cases hlt2 : k < m.length
    · have e := hFs'.out k hlt2
      have hst := hstep.out (F k) (m.getD k 0)
      rw [← e] at hst
      have hcx := hcell4.out wr hkr.at_ k hlt2
      obtain ⟨x, hx⟩ : ∃ x, x = m.getD k 0 := ⟨_, rfl⟩
      rw [← hx] at e hcx
      have hml2 := hml'.out
      have hflb := Lib.hid (show (F k).1.length ≤ 20000000000 by omega)
      have hfl1 := Lib.hid (show (F (k + 1)).1.length ≤ 10000000100 + (k + 1) * 2000100 by omega)
      have hat' := Lib.hid hat
      have hkc' := Lib.hid hkc
      have hkr' := Lib.hid hkr
      have hbl' := Lib.hid hbl
      have hwk' := Lib.hid hwk
      have hk1 := Lib.hid (show k + 1 ≤ m.length from hlt2)
      obtain ⟨-, c1, c2, c3, c4, c5⟩ := ccs6 hkc.at_
      have q1 : (k : Int) < (m.length : Int) := by omega
      have q2 : (0 : Int) ≤ (k : Int) := by omega
      have kw : IntKind.i64.wrap ((k : Int) + 1) = (k : Int) + 1 := by rw [IntKind.wrap_i64]; omega
      clear hx hfl hat hkc hkr hbl hwk hst hk hlt2 hml2 hat4 hk4 hr4 hbl4 hwk4
      by_cases hx110 : x = 110
      · subst hx110
        unfold wStep at e
        rw [if_pos rfl] at e
        have e' := Lib.hid e
        clear e
        go_wp2_with (first
          | ((with_reducible go_at_call 94); refine (hnum.out _ _ _ _ hat'.out hflb.out).mono ?_; rintro e w5 ⟨rfl, hat5, hbl5, hwk5⟩; have hat5' := Lib.hid (show WrAt base g w5 (F (k + 1)).1 (F (k + 1)).2 by rw [e'.out]; exact hat5); have hkc5 := Lib.hid (hkc'.out.keep hwk5); have hkr5 := Lib.hid (hkr'.out.keep hwk5); have hbl5' := Lib.hid (hbl'.out.trans hbl5); have hwk5' := Lib.hid (hwk'.out.trans hwk5); clear hat5 hbl5 hwk5))
        exact ⟨⟨k + 1, hk1.out, by push_cast; rfl, hat5'.out, hkc5.out, hkr5.out, hbl5'.out, hwk5'.out, hfl1.out⟩, by have := hk1.out; simp only [intOf]; omega⟩
      by_cases hx108 : x = 108
      · subst hx108
        unfold wStep at e
        rw [if_neg (by omega), if_pos rfl] at e
        have e' := Lib.hid e
        clear e
        go_wp2_with (first
          | ((with_reducible go_at_call 94); refine (hnum.out _ _ _ _ hat'.out hflb.out).mono ?_; rintro e w5 ⟨rfl, hat5, hbl5, hwk5⟩; have hat5' := Lib.hid (show WrAt base g w5 (F (k + 1)).1 (F (k + 1)).2 by rw [e'.out]; exact hat5); have hkc5 := Lib.hid (hkc'.out.keep hwk5); have hkr5 := Lib.hid (hkr'.out.keep hwk5); have hbl5' := Lib.hid (hbl'.out.trans hbl5); have hwk5' := Lib.hid (hwk'.out.trans hwk5); clear hat5 hbl5 hwk5))
        exact ⟨⟨k + 1, hk1.out, by push_cast; rfl, hat5'.out, hkc5.out, hkr5.out, hbl5'.out, hwk5'.out, hfl1.out⟩, by have := hk1.out; simp only [intOf]; omega⟩
      by_cases hx99 : x = 99
      · subst hx99
        unfold wStep at e
        rw [if_neg (by omega), if_neg (by omega), if_pos rfl] at e
        have e' := Lib.hid e
        clear e
        go_wp2_with (first
          | ((with_reducible go_at_call 94); refine (hnum.out _ _ _ _ hat'.out hflb.out).mono ?_; rintro e w5 ⟨rfl, hat5, hbl5, hwk5⟩; have hat5' := Lib.hid (show WrAt base g w5 (F (k + 1)).1 (F (k + 1)).2 by rw [e'.out]; exact hat5); have hkc5 := Lib.hid (hkc'.out.keep hwk5); have hkr5 := Lib.hid (hkr'.out.keep hwk5); have hbl5' := Lib.hid (hbl'.out.trans hbl5); have hwk5' := Lib.hid (hwk'.out.trans hwk5); clear hat5 hbl5 hwk5))
        exact ⟨⟨k + 1, hk1.out, by push_cast; rfl, hat5'.out, hkc5.out, hkr5.out, hbl5'.out, hwk5'.out, hfl1.out⟩, by have := hk1.out; simp only [intOf]; omega⟩
      by_cases hx112 : x = 112
      · subst hx112
        unfold wStep at e
        rw [if_neg (by omega), if_neg (by omega), if_neg (by omega), if_pos rfl] at e
        have e' := Lib.hid e
        clear e
        go_wp2_with (first
          | ((with_reducible go_at_call 77); refine (hhexP.out _ hbl'.out).mono ?_; rintro e w5 ⟨rfl, hb5⟩; have q5 := Lib.hid hb5; clear hb5)
          | ((with_reducible go_at_call 92); refine (hwordP.out _ _ _ (hat'.out.keep q5.out) hflb.out).mono ?_; rintro e w6 ⟨rfl, hat5, hbl5, hwk5⟩; have hat5' := Lib.hid (show WrAt base g w6 (F (k + 1)).1 (F (k + 1)).2 by rw [e'.out]; exact hat5); have hkc5 := Lib.hid ((hkc'.out.keep (Wk.below q5.out hat'.out.lt)).keep hwk5); have hkr5 := Lib.hid ((hkr'.out.keep (Wk.below q5.out hat'.out.lt)).keep hwk5); have hbl5' := Lib.hid ((hbl'.out.trans (q5.out.mono hat'.out.le)).trans hbl5); have hwk5' := Lib.hid ((hwk'.out.trans (Wk.below q5.out hat'.out.lt)).trans hwk5); clear hat5 hbl5 hwk5))
        exact ⟨⟨k + 1, hk1.out, by push_cast; rfl, hat5'.out, hkc5.out, hkr5.out, hbl5'.out, hwk5'.out, hfl1.out⟩, by have := hk1.out; simp only [intOf]; omega⟩
      by_cases hx100 : x = 100
      · subst hx100
        unfold wStep at e
        rw [if_neg (by omega), if_neg (by omega), if_neg (by omega), if_neg (by omega), if_pos rfl] at e
        have e' := Lib.hid e
        clear e
        go_wp2_with (first
          | ((with_reducible go_at_call 77); refine (hhexD.out _ hbl'.out).mono ?_; rintro e w5 ⟨rfl, hb5⟩; have q5 := Lib.hid hb5; clear hb5)
          | ((with_reducible go_at_call 92); refine (hwordD.out _ _ _ (hat'.out.keep q5.out) hflb.out).mono ?_; rintro e w6 ⟨rfl, hat5, hbl5, hwk5⟩; have hat5' := Lib.hid (show WrAt base g w6 (F (k + 1)).1 (F (k + 1)).2 by rw [e'.out]; exact hat5); have hkc5 := Lib.hid ((hkc'.out.keep (Wk.below q5.out hat'.out.lt)).keep hwk5); have hkr5 := Lib.hid ((hkr'.out.keep (Wk.below q5.out hat'.out.lt)).keep hwk5); have hbl5' := Lib.hid ((hbl'.out.trans (q5.out.mono hat'.out.le)).trans hbl5); have hwk5' := Lib.hid ((hwk'.out.trans (Wk.below q5.out hat'.out.lt)).trans hwk5); clear hat5 hbl5 hwk5))
        exact ⟨⟨k + 1, hk1.out, by push_cast; rfl, hat5'.out, hkc5.out, hkr5.out, hbl5'.out, hwk5'.out, hfl1.out⟩, by have := hk1.out; simp only [intOf]; omega⟩
      rw [show wStep a1 a2 a3 P D (F k) x = F k by unfold wStep; rw [if_neg hx110, if_neg hx108, if_neg hx99, if_neg hx112, if_neg hx100]] at e
      have e' := Lib.hid e
      have z1 : (x == 110) = false := by simpa using hx110
      have z2 : (x == 108) = false := by simpa using hx108
      have z3 : (x == 99) = false := by simpa using hx99
      have z4 : (x == 112) = false := by simpa using hx112
      have z5 : (x == 100) = false := by simpa using hx100
      clear e hx110 hx108 hx99 hx112 hx100
      go_wp2_with fail
      exact ⟨⟨k + 1, hk1.out, by push_cast; rfl, by rw [e'.out]; exact hat'.out, hkc'.out, hkr'.out, hbl'.out, hwk'.out, hfl1.out⟩, by have := hk1.out; simp only [intOf]; omega⟩
    · obtain rfl : k = m.length := by omega
      have hat' := Lib.hid hat
      have hbl' := Lib.hid hbl
      have hwk' := Lib.hid hwk
      have q1 : ¬ (m.length : Int) < (m.length : Int) := by omega
      clear hat hbl hwk hkc hkr hfl hk hlt2
      go_wp2_with fail
      go_end0
      exact ⟨rfl, hat'.out, hbl'.out, hwk'.out⟩
end Go.Proofs.Ytiogdomjmjiahaa.Own
