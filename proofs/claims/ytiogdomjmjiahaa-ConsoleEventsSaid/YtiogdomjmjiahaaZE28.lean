/- AwL, pruned (slim.py). -/
import Derived.Test.YtiogdomjmjiahaaZE21
import Derived.Test.YtiogdomjmjiahaaZE16
import Derived.Test.YtiogdomjmjiahaaZE23
import Derived.Test.YtiogdomjmjiahaaZE26
import Derived.Test.YtiogdomjmjiahaaZE27
import Derived.Great.BuildSlice
namespace Go.Proofs.Ytiogdomjmjiahaa.Own
open Go.RowKit Go.Proofs.Ytiogdomjmjiahaa.Arr Go.Proofs.Ytiogdomjmjiahaa.QA Go.Proofs.Ytiogdomjmjiahaa.QB Go.Proofs.Ytiogdomjmjiahaa.QC Go.Proofs.YtiogdomjmjiahaaW.PrintWords Go.Proofs.YtiogdomjmjiahaaW.PrintLast Go.Proofs.YtiogdomjmjiahaaW.PrintMore
set_option linter.unusedVariables false
set_option linter.unusedSimpArgs false
attribute [-go_sem] Instr.build
def READ : ByteArray := ⟨#[114, 101, 97, 100]⟩
def AWORDS : List ByteArray := [⟨#[114, 101, 97, 100]⟩, ⟨#[49]⟩, ⟨#[48]⟩, ⟨#[50]⟩]
def ATEXT : ByteArray := ⟨#[114, 101, 97, 100, 32, 49, 32, 48, 32, 50]⟩
theorem awords_eq : console_Words.f 100 ATEXT = some AWORDS := by kernel_rfl
theorem atold_eq : console_told.f 100 AWORDS = some (6, 1, 0, 2, [], [], true) := by kernel_rfl
abbrev rcs (vp vs vk : Value) : Array Value := #[.int .i64 0, .int .i64 0, .int .i64 0, .int .i64 0, .int .i64 0, .int .i64 0, vp, vs, vk]
theorem info115 : (Try.prog.info? 115).map (fun i => (i.zero, i.size, i.bytes)) = some (some (.agg #[.int .i64 0, .int .i64 0, .int .i64 0, .int .i64 0, .slice none 0 0, .slice none 0 0, .slice none 0 0]), 7, 104) := by kernel_rfl
theorem builtStep (a0 a1 a2 a3 : Int) (A B C : Option Addr) (n1 c1 n2 c2 n3 c3 : Nat) : Try.prog.built 115 (#[(0, .agg #[.int .i64 a0, .int .i64 a1, .int .i64 a2, .int .i64 a3, .slice A n1 c1, .slice B n2 c2]), (1, .slice C n3 c3)] : Array (Nat × Value)).toList = some #[.int .i64 a0, .int .i64 a1, .int .i64 a2, .int .i64 a3, .slice A n1 c1, .slice B n2 c2, .slice C n3 c3] := by kernel_rfl
abbrev stc (A : Option Addr) (n1 c1 : Nat) (B : Option Addr) (n2 c2 : Nat) : Array Value := #[.int .i64 6, .int .i64 1, .int .i64 0, .int .i64 2, .slice A n1 c1, .slice B n2 c2, .slice none 0 0]
set_option maxRecDepth 100000 in
theorem fillStep (A : Option Addr) (n1 c1 : Nat) (B : Option Addr) (n2 c2 : Nat) (w : World) : (Instr.buildSlice 68 1 #[(0, .agg (stc A n1 c1 B n2 c2))]).run Try.prog w = .ok (.slice (some ⟨w.heap.size, 0, none⟩) 1 1) (w.alloc (.cells (stc A n1 c1 B n2 c2) 115 (0, 0))) := by
  have hi := info115
  cases h : Try.prog.info? 115 with
  | none => rw [h] at hi; simp at hi
  | some i =>
    rw [h] at hi
    simp only [Option.map_some, Option.some.injEq, Prod.mk.injEq] at hi
    obtain ⟨h1, h2, h3⟩ := hi
    refine run_buildSlice w _ 115 1 _ _ i _ Try.underlying68 h h1 (by rw [h2]; decide) (by rw [h2]; decide) ?_
    rw [h2]
    obtain ⟨r, h4, h5, h6⟩ := Great.fill_dense (s := 7) (by decide) [.agg (stc A n1 c1 B n2 c2)] 0 ((Array.range (1 * 7)).map ((Value.agg #[.int .i64 0, .int .i64 0, .int .i64 0, .int .i64 0, .slice none 0 0, .slice none 0 0, .slice none 0 0]).cells[· % (Value.agg #[.int .i64 0, .int .i64 0, .int .i64 0, .int .i64 0, .slice none 0 0, .slice none 0 0, .slice none 0 0]).cells.size]!)) (by intro v hv; simp at hv; subst hv; rfl) (by simp)
    refine h4.trans ?_
    congr 1
    apply Array.ext_getElem?
    intro k
    rw [h6 k]
    by_cases hk : k < 7
    · have : k = 0 ∨ k = 1 ∨ k = 2 ∨ k = 3 ∨ k = 4 ∨ k = 5 ∨ k = 6 := by omega
      rcases this with rfl | rfl | rfl | rfl | rfl | rfl | rfl <;> rfl
    · rw [if_neg (by simp; omega)]
      rw [Array.getElem?_eq_none (by simp; omega), Array.getElem?_eq_none (by show 7 ≤ k; omega)]
theorem info115p : ∃ i, Try.prog.info? 115 = some i ∧ i.zero = some (.agg #[.int .i64 0, .int .i64 0, .int .i64 0, .int .i64 0, .slice none 0 0, .slice none 0 0, .slice none 0 0]) ∧ i.size = 7 ∧ i.bytes = 104 := by
  have hi := info115
  cases h : Try.prog.info? 115 with
  | none => rw [h] at hi; simp at hi
  | some i =>
    rw [h] at hi
    simp only [Option.map_some, Option.some.injEq, Prod.mk.injEq] at hi
    exact ⟨i, rfl, hi.1, hi.2.1, hi.2.2⟩
section
variable {P : Program} {a : Act} {op : Oper}
theorem exec_buildSlice (w : World) (t : TypeId) (len : Nat) (parts : Array (Nat × Operand)) (ho : op.op = .buildSlice t len parts) {v : Value} {w1 : World} (vs : Array (Nat × Value)) (hx : (parts.map fun (i, x) => (i, a.eval x)) = vs)
    (hr : (Instr.buildSlice t len vs).run P w = .ok v w1) : (execOp a.eval op).run P w = .ok (.value v) w1 := by
  subst hx
  unfold execOp
  simp only [ho, Sem.run_bind, hr, Result.andThen_ok]
  rfl
end
def LinePost (g base : Nat) (w : World) (e : Ending) (w' : World) : Prop := e = .returned (.bool true) ∧ Below base w w' ∧ ∃ (b : Nat) (cap : Nat) (cs : Array Value) (rest : List Value), w'.heap[g]? = some (.cells (rcs (.slice none 0 0) (.slice (some ⟨b, 0, none⟩) 1 cap) (.slice none 0 0)) 118 (0, 0)) ∧ w'.heap[b]? = some (.cells cs 115 (0, 0)) ∧ cs.toList = .int .i64 6 :: .int .i64 1 :: .int .i64 0 :: .int .i64 2 :: rest
set_option maxHeartbeats 8000000 in
set_option maxRecDepth 100000 in
theorem line_awake (g base : Nat) (hbg : base ≤ g) (w : World) (hbw : base ≤ w.heap.size) (A : Option Addr) (c : Nat) (hg : w.heap[g]? = some (.cells (rcs (.slice none 0 0) (.slice none 0 0) (.slice none 0 0)) 118 (0, 0))) (hC : Kd.C Kd.string w A 4 AWORDS) (hc : 4 ≤ c) :
    Calls Try.prog 69 #[.pointer (some ⟨g, 0, none⟩), .slice A 4 c] w (LinePost g base w) := by
  have ht := Lib.hid (fun (w1 : World) (h1 : Below w.heap.size w w1) => console_told.calls 100 A c AWORDS 6 1 0 2 [] [] true w1 (Kd.C_below hC h1) hc atold_eq)
  obtain ⟨ad, rfl, hcell⟩ := Kd.at_string hC 0 (by decide) (by decide)
  have h0 : w.cell? ad = some (.string READ) := by
    have e : ad.add 0 = ad := by obtain ⟨b, o, s⟩ := ad; cases s <;> simp [Addr.add]
    have h := hcell
    rw [show (0 : Int).toNat = 0 from rfl, e] at h
    exact h
  obtain ⟨hz, -⟩ := zero_of_info (P := Try.prog) infoC
  have hg' := Lib.hid hg
  have hbg' := Lib.hid hbg
  have hbw' := Lib.hid hbw
  clear hC hg hbg hbw hcell hc
  have r0 : 0 < READ.size := by decide
  have r1 : ∀ h : 0 < READ.size, ((((READ[0]'h).toNat : Nat) : Int) == 35) = false := fun _ => rfl
  have r2 : (READ.toList == [103, 101, 111, 109, 101, 116, 114, 121]) = false := by decide +kernel
  have r3 : (READ.toList == [102, 97, 117, 108, 116]) = false := by decide +kernel
  have r4 : (READ.toList == [112, 111, 107, 101]) = false := by decide +kernel
  obtain ⟨S, hS⟩ : ∃ S, S = READ := ⟨_, rfl⟩
  rw [← hS] at h0 r0 r1 r2 r3 r4
  have hZo : ∀ A n c B m d, (ccs 6 1 0 2 A n c B m d).all (·.oneCell') = true := fun _ _ _ _ _ _ => ccs_one _ _ _ _ _ _ _ _ _ _
  obtain ⟨G, hG⟩ : ∃ G : Option Addr → Nat → Nat → Option Addr → Nat → Nat → Array Value, G = fun A n c B m d => ccs 6 1 0 2 A n c B m d := ⟨_, rfl⟩
  have hGs := Lib.hid (show ∀ A n c B m d, (Try.prog.info? 27).map (·.size) = some (G A n c B m d).size by rw [hG]; intros; exact sizeC)
  have hGo := Lib.hid (show ∀ A n c B m d, (G A n c B m d).all (·.oneCell') = true by rw [hG]; exact hZo)
  obtain ⟨Z, hZ⟩ : ∃ Z : Array Value, Z = ccs 0 0 0 0 none 0 0 none 0 0 := ⟨_, rfl⟩
  rw [← hZ] at hz
  have hGZ := Lib.hid (show ∀ A n c B m d, Z.size = (G A n c B m d).size by rw [hG, hZ]; intros; rfl)
  have htG := Lib.hid (fun (w1 : World) (h1 : Below w.heap.size w w1) => show Calls Try.prog 88 #[.slice (some ad) 4 c] w1 (fun e w' => ∃ A n1 c1 B n2 c2, e = .returned (.tuple #[.agg (G A n1 c1 B n2 c2), .bool true]) ∧ Below w1.heap.size w1 w') by
    refine (ht.out w1 h1).mono ?_
    rintro e w' ⟨v4, v5, rfl, h4, h5, hb⟩
    obtain ⟨A, c1, rfl⟩ := Kd.R_slice h4
    obtain ⟨B, c2, rfl⟩ := Kd.R_slice h5
    exact ⟨A, _, c1, B, _, c2, by rw [hG], hb⟩)
  have hbuild : ∀ A n1 c1 B n2 c2 (W : World), (Instr.build 115 #[(0, .agg (G A n1 c1 B n2 c2)), (1, .slice none 0 0)]).run Try.prog W = .ok (.agg #[.int .i64 6, .int .i64 1, .int .i64 0, .int .i64 2, .slice A n1 c1, .slice B n2 c2, .slice none 0 0]) W := fun A n1 c1 B n2 c2 W => by rw [hG]; exact run_build W _ _ _ (builtStep 6 1 0 2 A B none n1 c1 n2 c2 0 0)
  have hbuild' := Lib.hid hbuild
  have hbs := Lib.hid (fun (A : Option Addr) (n1 c1 : Nat) (B : Option Addr) (n2 c2 : Nat) (W : World) => fillStep A n1 c1 B n2 c2 W)
  clear hS hG hZ hZo ht hbuild
  go_enter Try.func69, Try.ntmps69
  go_wp2_with (first
    | (with_reducible refine wpList_store_row rfl 27 _ _ rfl w1.heap.size (G A n1 c1 B n2 c2) rfl rfl 27 Z (heap_alloc_last _ _) (hGs.out _ _ _ _ _ _) (hGZ.out _ _ _ _ _ _) (hGo.out _ _ _ _ _ _) ?_)
    | ((with_reducible go_at_call 88); refine (htG.out _ (Below.refl _ _)).mono ?_; rintro e w1 ⟨A, n1, c1, B, n2, c2, rfl, hb⟩; have b1 := Lib.hid hb; clear hb))
  have hg1 := Lib.hid (heap_below hg'.out b1.out)
  have hgl := Lib.hid (lt_of_heap hg'.out)
  have hg2 := Lib.hid ((setRow_other (w1.alloc (.cells Z 27 (0, 0))) w1.heap.size g (G A n1 c1 B n2 c2) (Nat.ne_of_lt (lt_of_heap hg1.out))).trans ((heap_skip w1 (.cells Z 27 (0, 0)) g (Nat.ne_of_lt (lt_of_heap hg1.out))).trans hg1.out))
  have hk2 := Lib.hid (setRow_heap (w1.alloc (.cells Z 27 (0, 0))) w1.heap.size Z (G A n1 c1 B n2 c2) 27 (0, 0) (heap_alloc_last _ _))
  have hb2 := Lib.hid (show Below base w ((w1.alloc (.cells Z 27 (0, 0))).setRow w1.heap.size (G A n1 c1 B n2 c2)) from below_setRow ((b1.out.mono hbw'.out).alloc (Nat.le_trans hbw'.out b1.out.size) (.cells Z 27 (0, 0))) (Nat.le_trans hbw'.out b1.out.size) _)
  have hlo := Lib.hid (show base ≤ w1.heap.size from Nat.le_trans hbw'.out b1.out.size)
  obtain ⟨gc, hgc⟩ : ∃ gc, gc = w1.heap.size := ⟨_, rfl⟩
  clear b1 hg1 h0
  generalize (w1.alloc (.cells Z 27 (0, 0))).setRow w1.heap.size (G A n1 c1 B n2 c2) = w2 at *
  rw [← hgc] at hk2 hlo ⊢
  clear hgc w1
  have hlw := Lib.hid hb2.out.size
  refine start_ (n := 18) (S := fun w' => w'.heap[g]? = some (.cells (rcs (.slice none 0 0) (.slice none 0 0) (.slice none 0 0)) 118 (0, 0)) ∧ w'.heap[gc]? = some (.cells (G A n1 c1 B n2 c2) 27 (0, 0))) (ds := [17]) #[false, false, false, false, false, false, false, false, false, false, false, false, false, false, false, false, false, false] (by kernel_rfl) rfl rfl (by exact ⟨hg2.out, hk2.out⟩) (fun hHeld => ?_)
  refine pure_ (i := 0) (N := some 47) (v := ?_) (a' := ?_) #[true, false, false, false, false, false, false, false, false, false, false, false, false, false, false, false, false, false] rfl rfl (by kernel_rfl) (fun _ _ _ h => h) (Or.inl ⟨by rfl, ?_⟩) ?_ ?_
  rotate_left
  · intro w'
    go_simp
    with_reducible rfl
  rotate_left
  · simp only [Act.put, List.setIfInBounds_toArray, List.set_cons_zero, List.set_cons_succ, i64_w, i32_w]
    rfl
  refine pure_ (i := 1) (N := some 48) (v := ?_) (a' := ?_) #[true, true, false, false, false, false, false, false, false, false, false, false, false, false, false, false, false, false] rfl rfl (by kernel_rfl) (fun _ _ _ h => h) (Or.inl ⟨by rfl, ?_⟩) ?_ ?_
  rotate_left
  · intro w'
    go_simp
    with_reducible rfl
  rotate_left
  · simp only [Act.put, List.setIfInBounds_toArray, List.set_cons_zero, List.set_cons_succ, i64_w, i32_w]
    rfl
  refine pure_ (i := 2) (N := some 49) (v := ?_) (a' := ?_) #[true, true, true, false, false, false, false, false, false, false, false, false, false, false, false, false, false, false] rfl rfl (by kernel_rfl) (fun _ _ _ h => h) (Or.inl ⟨by rfl, ?_⟩) ?_ ?_
  rotate_left
  · intro w'
    go_simp
    with_reducible rfl
  rotate_left
  · simp only [Act.put, List.setIfInBounds_toArray, List.set_cons_zero, List.set_cons_succ, i64_w, i32_w]
    rfl
  refine pure_ (i := 3) (N := some 50) (v := ?_) (a' := ?_) #[true, true, true, true, false, false, false, false, false, false, false, false, false, false, false, false, false, false] rfl rfl (by kernel_rfl) (fun _ _ _ h => h) (Or.inl ⟨by rfl, ?_⟩) ?_ ?_
  rotate_left
  · intro w'
    go_simp
    with_reducible rfl
  rotate_left
  · simp only [Act.put, List.setIfInBounds_toArray, List.set_cons_zero, List.set_cons_succ, i64_w, i32_w]
    rfl
  refine pure_ (i := 4) (N := some 51) (v := ?_) (a' := ?_) #[true, true, true, true, true, false, false, false, false, false, false, false, false, false, false, false, false, false] rfl rfl (by kernel_rfl) (fun _ _ _ h => h) (Or.inl ⟨by rfl, ?_⟩) ?_ ?_
  rotate_left
  · intro w'
    go_simp
    with_reducible rfl
  rotate_left
  · simp only [Act.put, List.setIfInBounds_toArray, List.set_cons_zero, List.set_cons_succ, i64_w, i32_w]
    rfl
  refine take_ (i := 5) (N := some 52) (v := ?_) (a' := ?_) #[true, true, true, true, true, true, false, false, false, false, false, false, false, false, false, false, false, false] rfl rfl (by kernel_rfl) (fun _ _ _ h => h) (Or.inl ⟨by rfl, ?_⟩) hHeld ?_ ?_
  rotate_left
  · intro w' hS
    have hq := (blk_cell hS.1 7).trans rfl
    go_simp
    with_reducible rfl
  rotate_left
  · simp only [Act.put, List.setIfInBounds_toArray, List.set_cons_zero, List.set_cons_succ, i64_w, i32_w]
    rfl
  refine take_ (i := 6) (N := some 53) (v := ?_) (a' := ?_) #[true, true, true, true, true, true, true, false, false, false, false, false, false, false, false, false, false, false] rfl rfl (by kernel_rfl) (fun _ _ _ h => h) (Or.inl ⟨by rfl, ?_⟩) hHeld ?_ ?_
  rotate_left
  · intro w' hS
    refine (exec_load_row w' 27 _ (by rfl) gc (by rfl) 27 (G A n1 c1 B n2 c2) (0, 0) _ hS.2 Try.underlying27 rfl (hGs.out _ _ _ _ _ _)).trans ?_; show Result.ok (Next.value (Value.agg (G A n1 c1 B n2 c2))) w' = _; with_reducible rfl
  rotate_left
  · simp only [Act.put, List.setIfInBounds_toArray, List.set_cons_zero, List.set_cons_succ, i64_w, i32_w]
    rfl
  refine pure_ (i := 7) (N := some 54) (v := ?_) (a' := ?_) #[true, true, true, true, true, true, true, true, false, false, false, false, false, false, false, false, false, false] rfl rfl (by kernel_rfl) (fun _ _ _ h => h) (Or.inl ⟨by rfl, ?_⟩) ?_ ?_
  rotate_left
  · intro w'
    go_simp
    with_reducible rfl
  rotate_left
  · simp only [Act.put, List.setIfInBounds_toArray, List.set_cons_zero, List.set_cons_succ, i64_w, i32_w]
    rfl
  refine pure_ (i := 8) (N := some 55) (v := ?_) (a' := ?_) #[true, true, true, true, true, true, true, true, true, false, false, false, false, false, false, false, false, false] rfl rfl (by kernel_rfl) (fun _ _ _ h => h) (Or.inl ⟨by rfl, ?_⟩) ?_ ?_
  rotate_left
  · intro w'
    go_simp
    with_reducible rfl
  rotate_left
  · simp only [Act.put, List.setIfInBounds_toArray, List.set_cons_zero, List.set_cons_succ, i64_w, i32_w]
    rfl
  refine pure_ (i := 9) (N := some 56) (v := ?_) (a' := ?_) #[true, true, true, true, true, true, true, true, true, true, false, false, false, false, false, false, false, false] rfl rfl (by kernel_rfl) (fun _ _ _ h => h) (Or.inl ⟨by rfl, ?_⟩) ?_ ?_
  rotate_left
  · intro w'
    go_simp
    with_reducible rfl
  rotate_left
  · simp only [Act.put, List.setIfInBounds_toArray, List.set_cons_zero, List.set_cons_succ, i64_w, i32_w]
    rfl
  refine take_ (i := 10) (N := some 57) (v := ?_) (a' := ?_) #[true, true, true, true, true, true, true, true, true, true, true, false, false, false, false, false, false, false] rfl rfl (by kernel_rfl) (fun _ _ _ h => h) (Or.inl ⟨by rfl, ?_⟩) hHeld ?_ ?_
  rotate_left
  · intro w' hS
    have hq := (blk_cell hS.1 8).trans rfl
    go_simp
    with_reducible rfl
  rotate_left
  · simp only [Act.put, List.setIfInBounds_toArray, List.set_cons_zero, List.set_cons_succ, i64_w, i32_w]
    rfl
  refine pure_ (i := 11) (N := some 58) (v := ?_) (a' := ?_) #[true, true, true, true, true, true, true, true, true, true, true, true, false, false, false, false, false, false] rfl rfl (by kernel_rfl) (fun _ _ _ h => h) (Or.inl ⟨by rfl, ?_⟩) ?_ ?_
  rotate_left
  · intro w'
    have hq := hbuild'.out A n1 c1 B n2 c2 w'; go_simp; with_reducible rfl
  rotate_left
  · simp only [Act.put, List.setIfInBounds_toArray, List.set_cons_zero, List.set_cons_succ, i64_w, i32_w]
    rfl
  refine one_ (i := 12) (N := some 59) #[true, true, true, true, true, true, true, true, true, true, true, true, true, false, false, false, false, false] rfl rfl (by kernel_rfl) (by decide) (fun K hK => ?_)
  have hq := hbs.out A n1 c1 B n2 c2 w2.drew
  refine value_ (w1 := w2.drew.alloc (.cells (stc A n1 c1 B n2 c2) 115 (0, 0))) (v := .slice (some ⟨w2.drew.heap.size, 0, none⟩) 1 1) (by rfl) rfl (exec_buildSlice _ _ _ _ (by rfl) #[(0, .agg (stc A n1 c1 B n2 c2))] (by (try simp only [List.map_toArray, List.map_cons, List.map_nil]); rfl) hq) ?_
  refine hK.out _ _ ⟨(heap_skip _ _ _ (Nat.ne_of_lt (lt_of_heap hHeld.1))).trans hHeld.1, (heap_skip _ _ _ (Nat.ne_of_lt (lt_of_heap hHeld.2))).trans hHeld.2⟩ (fun hHeld => ?_)
  have hd2 := Lib.hid ((below_drew hb2.out).alloc (Nat.le_trans hbw'.out hlw.out) (.cells (stc A n1 c1 B n2 c2) 115 (0, 0)))
  have hbk := Lib.hid (heap_alloc_last w2.drew (.cells (stc A n1 c1 B n2 c2) 115 (0, 0)))
  have hlw3 := Lib.hid (show w.heap.size ≤ (w2.drew.alloc (.cells (stc A n1 c1 B n2 c2) 115 (0, 0))).heap.size from hd2.out.size)
  obtain ⟨gs, hgs⟩ : ∃ gs, gs = w2.drew.heap.size := ⟨_, rfl⟩
  rw [← hgs] at hbk ⊢
  clear hgs hq hg2 hk2 hb2 hlw
  generalize w2.drew.alloc (.cells (stc A n1 c1 B n2 c2) 115 (0, 0)) = w3 at *
  clear hK K
  refine norm_ (a' := ?_) ?_ ?_
  rotate_left
  · show Act.put _ (some 59) _ = _
    simp only [Act.put, List.setIfInBounds_toArray, List.set_cons_zero, List.set_cons_succ, i64_w, i32_w]
    rfl
  refine one_ (i := 13) (N := some 60) #[true, true, true, true, true, true, true, true, true, true, true, true, true, true, false, false, false, false] rfl rfl (by kernel_rfl) (by decide) (fun K hK => ?_)
  obtain ⟨i15, hi15, hz15, hs15, hy15⟩ := info115p
  obtain ⟨v', w4, hrun, hown, hgr, -⟩ := run_append_own (P := Try.prog) (w := w3) base 68 68 115 i15 _ 7 104 Try.underlying68 hi15 hz15 hs15 hy15 rfl (by decide) (.slice none 0 0) 0 [] (World.ownsRow_nil _ _ _ _) ⟨gs, 0, none⟩ 1 1 (stc A n1 c1 B n2 c2).toList rfl (fun j u hj => by rw [Addr.add_lit, Nat.zero_add]; exact (cell_of_row w3 gs j _ _ _ hbk.out).trans (Array.getElem?_toList.symm.trans hj)) (by intro u hu; simp at hu; rcases hu with rfl | rfl | rfl | rfl | rfl | rfl | rfl <;> rfl) (by decide) (by decide) (Nat.le_trans hbw'.out hlw3.out)
  obtain ⟨Av, cv, rfl⟩ := own_slice hown
  refine value_ (w1 := w4) (v := .slice Av (0 + 1) cv) (by rfl) rfl (exec_append _ (.tmp 52) (.tmp 59) 68 68 (by rfl) (.slice none 0 0) (.slice (some ⟨gs, 0, none⟩) 1 1) (by rfl) (by rfl) (by exact hrun)) ?_
  have hg4 := (hgr.block g (lt_of_heap hHeld.1) (by simp [Value.ownBlock])).trans hHeld.1
  have hk4 := (hgr.block gc (lt_of_heap hHeld.2) (by simp [Value.ownBlock])).trans hHeld.2
  refine hK.out _ _ ⟨hg4, hk4⟩ (fun hHeld => ?_)
  have hb4 := Lib.hid (hd2.out.grown hgr (Nat.le_trans hbw'.out hlw3.out) (fun k hk => by simp [Value.ownBlock] at hk))
  have ho4 := Lib.hid hown
  clear hg4 hk4 hrun hgr hown hi15 hz15 hs15 hy15 i15 hbk hd2 hlw3
  clear hK K
  refine norm_ (a' := ?_) ?_ ?_
  rotate_left
  · show Act.put _ (some 60) _ = _
    simp only [Act.put, List.setIfInBounds_toArray, List.set_cons_zero, List.set_cons_succ, i64_w, i32_w]
    rfl
  refine pure_ (i := 14) (N := some 61) (v := ?_) (a' := ?_) #[true, true, true, true, true, true, true, true, true, true, true, true, true, true, true, false, false, false] rfl rfl (by kernel_rfl) (fun _ _ _ h => h) (Or.inl ⟨by rfl, ?_⟩) ?_ ?_
  rotate_left
  · intro w'
    go_simp
    with_reducible rfl
  rotate_left
  · simp only [Act.put, List.setIfInBounds_toArray, List.set_cons_zero, List.set_cons_succ, i64_w, i32_w]
    rfl
  refine pure_ (i := 15) (N := some 62) (v := ?_) (a' := ?_) #[true, true, true, true, true, true, true, true, true, true, true, true, true, true, true, true, false, false] rfl rfl (by kernel_rfl) (fun _ _ _ h => h) (Or.inl ⟨by rfl, ?_⟩) ?_ ?_
  rotate_left
  · intro w'
    go_simp
    with_reducible rfl
  rotate_left
  · simp only [Act.put, List.setIfInBounds_toArray, List.set_cons_zero, List.set_cons_succ, i64_w, i32_w]
    rfl
  refine pure_ (i := 16) (N := some 63) (v := ?_) (a' := ?_) #[true, true, true, true, true, true, true, true, true, true, true, true, true, true, true, true, true, false] rfl rfl (by kernel_rfl) (fun _ _ _ h => h) (Or.inl ⟨by rfl, ?_⟩) ?_ ?_
  rotate_left
  · intro w'
    go_simp
    with_reducible rfl
  rotate_left
  · simp only [Act.put, List.setIfInBounds_toArray, List.set_cons_zero, List.set_cons_succ, i64_w, i32_w]
    rfl
  refine last_ (i := 17) (N := none) #[true, true, true, true, true, true, true, true, true, true, true, true, true, true, true, true, true, true] rfl rfl (by kernel_rfl) (by decide) (fun K hK => ?_)
  have hq := (blk_cell hHeld.1 7).trans rfl
  have hf := blk_frozen hHeld.1 7
  refine skip_ (w1 := w4.setCell ⟨g, 7, none⟩ (.slice Av (0 + 1) cv)) (by rfl) rfl (by go_simp; done) ?_
  have hg5 := heap_setCell_same w4 g 7 _ _ (.slice Av (0 + 1) cv) hHeld.1
  have hk5 : (w4.setCell ⟨g, 7, none⟩ (.slice Av (0 + 1) cv)).heap[gc]? = some (.cells (G A n1 c1 B n2 c2) 27 (0, 0)) := by
    rw [heap_setCell_other _ _ _ _ (by rintro rfl; have := hHeld.1.symm.trans hHeld.2; injection this with e; injection e with _ e; revert e; decide)]
    exact hHeld.2
  refine hK.out _ _ ?_
  have ho5 := Lib.hid (own_move (w1 := w4.setCell ⟨g, 7, none⟩ (.slice Av (0 + 1) cv)) ho4.out (fun k hk => heap_setCell_other _ ⟨g, 7, none⟩ _ _ (own_ne ho4.out hHeld.1 (by decide) k hk)))
  have hg5' := Lib.hid hg5
  have hb5 := Lib.hid (hb4.out.setCell (p := ⟨g, 7, none⟩) hbg'.out (.slice Av (0 + 1) cv))
  clear hq hf hg5 hk5 hHeld hb4 ho4
  generalize w4.setCell ⟨g, 7, none⟩ (.slice Av (0 + 1) cv) = w5 at *
  clear hK K
  refine done_ (by kernel_rfl) ?_
  have hq := (blk_cell hg5'.out 8).trans rfl
  have hf := blk_frozen hg5'.out 8
  go_wp2
  go_ret
  clear hq hf
  refine ⟨rfl, hb5.out.setCell (p := ⟨g, 8, none⟩) hbg'.out _, ?_⟩
  have ho6 := own_move (w1 := w5.setCell ⟨g, 8, none⟩ (.slice none 0 0)) ho5.out (fun k hk => heap_setCell_other _ ⟨g, 8, none⟩ _ _ (own_ne ho5.out hg5'.out (by decide) k hk))
  have hg6 := heap_setCell_same w5 g 8 _ _ (.slice none 0 0) hg5'.out
  rcases ho6.2 with ⟨_, h⟩ | ⟨b, cap, cur, hv, _, hgb, _, _, hcs, htk⟩
  · exact absurd h (by decide)
  injection hv with e1 e2 e3
  subst e1 e3
  refine ⟨b, cv, cur, [.slice A n1 c1, .slice B n2 c2, .slice none 0 0] ++ cur.toList.drop 7, hg6, hgb, ?_⟩
  rw [← List.take_append_drop 7 cur.toList, show List.take 7 cur.toList = _ from htk]
  simp
end Go.Proofs.Ytiogdomjmjiahaa.Own
