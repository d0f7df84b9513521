import Derived.Test.YthmahaoadoeoaaaTwA
import Derived.Test.YthmahaoadoeoaaaPTwiceProductsx0
namespace Go.Proofs.Ythmahaoadoeoaaa.Tw
open Go.RowKit Go.Proofs.YthmahaoadoeoaaaW.PrintWords Go.Proofs.YthmahaoadoeoaaaW.PrintLast Go.Proofs.YthmahaoadoeoaaaW.PrintMore
set_option linter.unusedVariables false
set_option linter.unusedSimpArgs false
theorem info5 : (Try.prog.info? 5).map (fun i => (i.zero, i.size, i.bytes)) = some (some (.int .u8 0), 1, 1) := by kernel_rfl
theorem reads_block {w : World} {g : Nat} {k : IntKind} {l : List Int} {t : TypeId} {fr : Nat × Nat} (h : w.heap[g]? = some (.cells (ints k l) t fr)) (hl : l.length ≤ 9223372036854775807) : ReadsInt w k (some ⟨g, 0, none⟩) l.length l :=
  ⟨rfl, hl, fun _ => ⟨_, rfl, fun j hj => by rw [add_plain, cell_of_row w g j _ _ _ h, ints_get k l j hj]⟩⟩
theorem own_empty (W : World) (base e g : Nat) (k : IntKind) (hg : g = W.heap.size) (hb : base ≤ W.heap.size) : (W.alloc (.cells #[] e)).ownsRow base e 1 (.slice (some ⟨g, 0, none⟩) 0 0) ([] : List Int).length (nums k []) := by subst hg; exact own_lit W base e k [] hb (by simp)
theorem R_of_nums {k : IntKind} {e : Nat} {w : World} {base : Nat} {v : Value} {xs : List Int} (h : w.ownsRow base e 1 v xs.length (nums k xs)) : Kd.R (Kd.int k) e w base (fun _ => True) v xs := Kd.R_of_own h (fun _ _ => trivial)
set_option maxHeartbeats 1000000 in
theorem told_any (l : List Int) (hl : l.length = 16) (w : World) :
    Calls Try.prog 36 #[.agg (ints .u8 l)] w fun e w' => ∃ v, e = .returned v ∧ Kd.R (Kd.int .u8) 5 w' w.heap.size (fun _ => True) v l ∧ Below w.heap.size w w' := by
  have hl' := Lib.hid hl
  clear hl
  go_enter Try.func36, Try.ntmps36
  go_wp2_with (first | (at_builtin; refine print_append_row (w0 := w) w.heap.size rfl _ _ 22 5 .u8 1 rfl Try.underlying22 info5 (by decide) _ [] l _ 16 16 rfl rfl ?c1 ?c2 ?c3 ?c4 ?c5 ?c6))
  case c1 =>
    refine own_empty _ _ _ _ _ ?_ ?_ <;> (simp only [World.size_alloc]; try omega)
  case c2 =>
    have h : ((w.alloc (Obj.cells (ints IntKind.u8 l) 32)).alloc (Obj.cells #[] 5)).heap[w.heap.size]? = some (.cells (ints .u8 l) 32 (0, 0)) := by
      ((repeat rw [heap_skip _ _ _ (by simp only [World.size_alloc]; omega)]); exact heap_at _ _ _ (by simp only [World.size_alloc]))
    have := reads_block h (by rw [hl'.out]; decide)
    rwa [hl'.out] at this
  case c3 => exact ((Below.refl _ _).alloc (Nat.le_refl _) _).alloc (by simp only [World.size_alloc]; omega) _
  case c4 => simp only [World.size_alloc]; omega
  case c5 => decide
  case c6 =>
    intro v1 w1 hown hb _ _
    have hown' := Lib.hid hown
    clear hown
    go_wp2
    go_ret
    exact ⟨v1, rfl, R_of_nums (by simpa using hown'.out), hb⟩
end Go.Proofs.Ythmahaoadoeoaaa.Tw
