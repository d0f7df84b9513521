/- WrD, pruned (slim.py). -/
import Derived.Test.YtiogdomjmjiahaaZC27
namespace Go.Proofs.Ytiogdomjmjiahaa.Own
open Go.RowKit Go.Proofs.Ytiogdomjmjiahaa.Arr Go.Proofs.Ytiogdomjmjiahaa.QA Go.Proofs.Ytiogdomjmjiahaa.QB Go.Proofs.Ytiogdomjmjiahaa.QC Go.Proofs.YtiogdomjmjiahaaW.PrintWords Go.Proofs.YtiogdomjmjiahaaW.PrintLast Go.Proofs.YtiogdomjmjiahaaW.PrintMore
set_option linter.unusedVariables false
set_option linter.unusedSimpArgs false
theorem wcommand_any (base g : Nat) (w : World) (b : List Int) (bad : Bool) (a0 a1 a2 a3 : Int) (A : Option Addr) (c : Nat) (P : List Int) (B : Option Addr) (d : Nat) (D : List Int) (h : WrAt base g w b bad)
    (hP : ∀ w', Below base w w' → Kd.C (Kd.int .u8) w' A P.length P) (hc : P.length ≤ c) (hPb : ∀ x ∈ P, byt x) (hPl : P.length ≤ 1000000)
    (hD : ∀ w', Below base w w' → Kd.C (Kd.int .u8) w' B D.length D) (hd : D.length ≤ d) (hDb : ∀ x ∈ D, byt x) (hDl : D.length ≤ 1000000) (hbl : b.length ≤ 10000000000) :
    Calls Try.prog 73 #[.pointer (some ⟨g, 0, none⟩), .agg (ccs a0 a1 a2 a3 A P.length c B D.length d)] w (WrPost base g w (wCmd a0 a1 a2 a3 P D (b, bad)).1 (wCmd a0 a1 a2 a3 P D (b, bad)).2) := by
  unfold wCmd
  by_cases h0 : 1 ≤ a0 ∧ a0 ≤ 15
  · rw [if_pos h0]
    exact wcommand_good base g w b bad a0 a1 a2 a3 A c P B d D h h0.1 h0.2 hP hc hPb hPl hD hd hDb hDl hbl
  · rw [if_neg h0]
    exact wcommand_bad base g w b bad a0 a1 a2 a3 A P.length c B D.length d h h0
theorem builtWr : Try.prog.built 135 (#[] : Array (Nat × Value)).toList = some #[.slice none 0 0, .bool false] := by kernel_rfl
def wordRes (s : List Int × Bool) : ByteArray × Int := if s.2 = true then (⟨#[]⟩, 1) else (strOfNums s.1, 0)
set_option maxHeartbeats 4000000 in
set_option maxRecDepth 100000 in
theorem cword_any (w : World) (a0 a1 a2 a3 : Int) (A : Option Addr) (c : Nat) (P : List Int) (B : Option Addr) (d : Nat) (D : List Int)
    (hP : Kd.C (Kd.int .u8) w A P.length P) (hc : P.length ≤ c) (hPb : ∀ x ∈ P, byt x) (hPl : P.length ≤ 1000000)
    (hD : Kd.C (Kd.int .u8) w B D.length D) (hd : D.length ≤ d) (hDb : ∀ x ∈ D, byt x) (hDl : D.length ≤ 1000000) :
    Calls Try.prog 47 #[.agg (ccs a0 a1 a2 a3 A P.length c B D.length d)] w fun e w' => e = .returned (.tuple #[.string (wordRes (wCmd a0 a1 a2 a3 P D ([], false))).1, .int .i64 (wordRes (wCmd a0 a1 a2 a3 P D ([], false))).2]) ∧ Below w.heap.size w w' := by
  have hbW : ∀ W : World, (Instr.build 135 #[]).run Try.prog W = .ok (.agg #[.slice none 0 0, .bool false]) W := fun W => run_build W _ _ _ builtWr
  obtain ⟨CS, hCS⟩ : ∃ CS, CS = ccs a0 a1 a2 a3 A P.length c B D.length d := ⟨_, rfl⟩
  have hCs := Lib.hid (show (Try.prog.info? 27).map (·.size) = some CS.size by rw [hCS]; exact sizeC)
  have hcmd := Lib.hid (fun (w1 : World) (hb : Below w.heap.size w w1) (h : WrAt w.heap.size (w.heap.size + 1) w1 [] false) => wcommand_any w.heap.size (w.heap.size + 1) w1 [] false a0 a1 a2 a3 A c P B d D h (fun w' hw => Kd.C_below hP (hb.trans hw)) hc hPb hPl (fun w' hw => Kd.C_below hD (hb.trans hw)) hd hDb hDl (by simp))
  rw [← hCS] at hcmd ⊢
  obtain ⟨R, hR⟩ : ∃ R, R = wCmd a0 a1 a2 a3 P D ([], false) := ⟨_, rfl⟩
  rw [← hR] at hcmd ⊢
  have h0 : ∀ W1 : World, W1 = (w.alloc (.cells CS 27 (0, 0))).alloc (.cells #[.slice none 0 0, .bool false] 135 (0, 0)) → WrAt w.heap.size (w.heap.size + 1) W1 [] false ∧ Below w.heap.size w W1 ∧ W1.heap[w.heap.size]? = some (.cells CS 27 (0, 0)) := by
    rintro W1 rfl
    refine ⟨⟨Nat.le_succ _, by simp; omega, .slice none 0 0, ?_, World.ownsRow_nil _ _ _ _⟩, ((Below.refl w.heap.size w).alloc (Nat.le_refl _) _).alloc (by simp) _, ?_⟩
    · have := heap_alloc_last (w.alloc (.cells CS 27 (0, 0))) (.cells #[.slice none 0 0, .bool false] 135 (0, 0))
      simpa using this
    · exact (heap_skip (w.alloc (.cells CS 27 (0, 0))) _ w.heap.size (by simp)).trans (heap_alloc_last w _)
  obtain ⟨W1, hW1⟩ : ∃ W1, W1 = (w.alloc (.cells CS 27 (0, 0))).alloc (.cells #[.slice none 0 0, .bool false] 135 (0, 0)) := ⟨_, rfl⟩
  have h1 := Lib.hid (h0 W1 hW1)
  clear h0 hCS hR hP hc hPb hPl hD hd hDb hDl
  obtain ⟨L, bd⟩ := R
  cases bd
  all_goals
    go_enter Try.func47, Try.ntmps47
    go_wp2_with (first
      | (rw [← hW1]; with_reducible refine wpList_load_row rfl 27 _ rfl w.heap.size rfl 27 CS (0, 0) _ h1.out.2.2 Try.underlying27 rfl hCs.out ?_)
      | ((with_reducible go_at_call 73); (try rw [← hW1]); refine (hcmd.out _ h1.out.2.1 h1.out.1).mono ?_; rintro e w2 ⟨rfl, hat, hbl, hwk⟩; have hb2 := Lib.hid (h1.out.2.1.trans hbl); obtain ⟨v, hg, ho⟩ := hat.at_; obtain ⟨Av, cv, rfl⟩ := own_slice ho; have q0 := (blk_cell hg 0).trans rfl; have q1 := (blk_cell hg 1).trans rfl; have hcv := own_string (P := Try.prog) Try.underlying25 Try.underlying5 Try.underlying9 ho; clear hbl hwk hg ho hat))
    first | go_ret | go_ret2 | go_end0
    exact ⟨rfl, hb2.out⟩
end Go.Proofs.Ytiogdomjmjiahaa.Own
