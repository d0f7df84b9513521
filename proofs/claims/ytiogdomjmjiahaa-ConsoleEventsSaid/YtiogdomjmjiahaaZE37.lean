/- OpE, pruned (slim.py). -/
import Derived.Test.YtiogdomjmjiahaaZE36
import Derived.Test.YtiogdomjmjiahaaProg
import Derived.KernelRfl
namespace Go.Proofs.Ytiogdomjmjiahaa.Opz
open Go.RowKit Go.Proofs.YtiogdomjmjiahaaW.PrintWords
set_option linter.unusedVariables false
abbrev PrK {α β : Type} (K : World → α → List Value → Prop) (K' : World → β → List Value → Prop) : World → α × β → List Value → Prop := fun w x cs => ∃ c0 c1, cs = c0 ++ c1 ∧ K w x.1 c0 ∧ K' w x.2 c1
abbrev PrW {α β : Type} (W : α → Prop) (W' : β → Prop) : α × β → Prop := fun x => W x.1 ∧ W' x.2
abbrev T92 := Int × (List Int)
abbrev K92 : World → T92 → List Value → Prop := (PrK (Kd.int .i64).K (Kd.slice 5 (Kd.int .u8)).K)
abbrev W92 : T92 → Prop := (PrW (fun n : Int => (Lit.int .i64 n).wf = true) (fun xs : List Int => xs.length ≤ 140737488351232 ∧ ∀ x ∈ xs, (fun n : Int => (Lit.int .u8 n).wf = true) x))
abbrev kd92 : Kd T92 := (Kd.pair (Kd.int .i64) (Kd.slice 5 (Kd.int .u8)))
def f92_0 : Field := { name := "E", type := 29, offset := 0, embedded := false, tag := "", pkgPath := "", byteOffset := 0 }
def f92_1 : Field := { name := "Data", type := 25, offset := 1, embedded := false, tag := "", pkgPath := "", byteOffset := 8 }
theorem opens92 : Opens Try.prog 92 kd92.K W92 := by
  have e0 : Opens Try.prog 29 (Kd.int .i64).K (fun n : Int => (Lit.int .i64 n).wf = true) := (opens_int Try.underlying29)
  have e1 : Opens Try.prog 25 (Kd.slice 5 (Kd.int .u8)).K (fun xs : List Int => xs.length ≤ 140737488351232 ∧ ∀ x ∈ xs, (fun n : Int => (Lit.int .u8 n).wf = true) x) := (opens_slice (q := 5) (d := (Kd.int .u8)) Try.underlying25 (by kernel_rfl) (by kernel_rfl) (opens_int Try.underlying5))
  have h1 : FOpen Try.prog [f92_1] 1 2 (Kd.slice 5 (Kd.int .u8)).K (fun xs : List Int => xs.length ≤ 140737488351232 ∧ ∀ x ∈ xs, (fun n : Int => (Lit.int .u8 n).wf = true) x) := fopen_one (P := Try.prog) (f := f92_1) (off := 1) (total := 2) (K := (Kd.slice 5 (Kd.int .u8)).K) (Wf := (fun xs : List Int => xs.length ≤ 140737488351232 ∧ ∀ x ∈ xs, (fun n : Int => (Lit.int .u8 n).wf = true) x)) rfl (by kernel_rfl) e1
  have h0 : FOpen Try.prog [f92_0, f92_1] 0 2 (PrK (Kd.int .i64).K (Kd.slice 5 (Kd.int .u8)).K) (PrW (fun n : Int => (Lit.int .i64 n).wf = true) (fun xs : List Int => xs.length ≤ 140737488351232 ∧ ∀ x ∈ xs, (fun n : Int => (Lit.int .u8 n).wf = true) x)) := fopen_cons (P := Try.prog) (f := f92_0) (fs := [f92_1]) (off := 0) (off' := 1) (total := 2) (K := (Kd.int .i64).K) (K' := (Kd.slice 5 (Kd.int .u8)).K) (Wf := (fun n : Int => (Lit.int .i64 n).wf = true)) (Wf' := (fun xs : List Int => xs.length ≤ 140737488351232 ∧ ∀ x ∈ xs, (fun n : Int => (Lit.int .u8 n).wf = true) x)) rfl (by kernel_rfl) e0 h1
  have hs : Opens Try.prog 92 K92 W92 := opens_struct (fs := #[f92_0, f92_1]) (total := 2) Try.underlying92 (by kernel_rfl) h0
  intro H enc sp held w base fuel cs x hx hz
  exact hs enc sp held w base fuel cs x hx hz
abbrev T94 := T92 × Int × Int × Int × Int × Bool
abbrev K94 : World → T94 → List Value → Prop := (PrK kd92.K (PrK (Kd.int .i64).K (PrK (Kd.int .u64).K (PrK (Kd.int .u64).K (PrK (Kd.int .u64).K Kd.bool.K)))))
abbrev W94 : T94 → Prop := (PrW W92 (PrW (fun n : Int => (Lit.int .i64 n).wf = true) (PrW (fun n : Int => (Lit.int .u64 n).wf = true) (PrW (fun n : Int => (Lit.int .u64 n).wf = true) (PrW (fun n : Int => (Lit.int .u64 n).wf = true) (fun _ : Bool => True))))))
abbrev kd94 : Kd T94 := (Kd.pair kd92 (Kd.pair (Kd.int .i64) (Kd.pair (Kd.int .u64) (Kd.pair (Kd.int .u64) (Kd.pair (Kd.int .u64) Kd.bool)))))
def f94_0 : Field := { name := "A", type := 92, offset := 0, embedded := false, tag := "", pkgPath := "", byteOffset := 0 }
def f94_1 : Field := { name := "Ops", type := 3, offset := 2, embedded := false, tag := "", pkgPath := "", byteOffset := 32 }
def f94_2 : Field := { name := "Epoch", type := 45, offset := 3, embedded := false, tag := "", pkgPath := "", byteOffset := 40 }
def f94_3 : Field := { name := "Before", type := 45, offset := 4, embedded := false, tag := "", pkgPath := "", byteOffset := 48 }
def f94_4 : Field := { name := "After", type := 45, offset := 5, embedded := false, tag := "", pkgPath := "", byteOffset := 56 }
def f94_5 : Field := { name := "On", type := 4, offset := 6, embedded := false, tag := "", pkgPath := "", byteOffset := 64 }
theorem opens94 : Opens Try.prog 94 kd94.K W94 := by
  have e0 : Opens Try.prog 92 kd92.K W92 := opens92
  have e1 : Opens Try.prog 3 (Kd.int .i64).K (fun n : Int => (Lit.int .i64 n).wf = true) := (opens_int Try.underlying3)
  have e2 : Opens Try.prog 45 (Kd.int .u64).K (fun n : Int => (Lit.int .u64 n).wf = true) := (opens_int Try.underlying45)
  have e3 : Opens Try.prog 45 (Kd.int .u64).K (fun n : Int => (Lit.int .u64 n).wf = true) := (opens_int Try.underlying45)
  have e4 : Opens Try.prog 45 (Kd.int .u64).K (fun n : Int => (Lit.int .u64 n).wf = true) := (opens_int Try.underlying45)
  have e5 : Opens Try.prog 4 Kd.bool.K (fun _ : Bool => True) := (opens_bool Try.underlying4)
  have h5 : FOpen Try.prog [f94_5] 6 7 Kd.bool.K (fun _ : Bool => True) := fopen_one (P := Try.prog) (f := f94_5) (off := 6) (total := 7) (K := Kd.bool.K) (Wf := (fun _ : Bool => True)) rfl (by kernel_rfl) e5
  have h4 : FOpen Try.prog [f94_4, f94_5] 5 7 (PrK (Kd.int .u64).K Kd.bool.K) (PrW (fun n : Int => (Lit.int .u64 n).wf = true) (fun _ : Bool => True)) := fopen_cons (P := Try.prog) (f := f94_4) (fs := [f94_5]) (off := 5) (off' := 6) (total := 7) (K := (Kd.int .u64).K) (K' := Kd.bool.K) (Wf := (fun n : Int => (Lit.int .u64 n).wf = true)) (Wf' := (fun _ : Bool => True)) rfl (by kernel_rfl) e4 h5
  have h3 : FOpen Try.prog [f94_3, f94_4, f94_5] 4 7 (PrK (Kd.int .u64).K (PrK (Kd.int .u64).K Kd.bool.K)) (PrW (fun n : Int => (Lit.int .u64 n).wf = true) (PrW (fun n : Int => (Lit.int .u64 n).wf = true) (fun _ : Bool => True))) := fopen_cons (P := Try.prog) (f := f94_3) (fs := [f94_4, f94_5]) (off := 4) (off' := 5) (total := 7) (K := (Kd.int .u64).K) (K' := (PrK (Kd.int .u64).K Kd.bool.K)) (Wf := (fun n : Int => (Lit.int .u64 n).wf = true)) (Wf' := (PrW (fun n : Int => (Lit.int .u64 n).wf = true) (fun _ : Bool => True))) rfl (by kernel_rfl) e3 h4
  have h2 : FOpen Try.prog [f94_2, f94_3, f94_4, f94_5] 3 7 (PrK (Kd.int .u64).K (PrK (Kd.int .u64).K (PrK (Kd.int .u64).K Kd.bool.K))) (PrW (fun n : Int => (Lit.int .u64 n).wf = true) (PrW (fun n : Int => (Lit.int .u64 n).wf = true) (PrW (fun n : Int => (Lit.int .u64 n).wf = true) (fun _ : Bool => True)))) := fopen_cons (P := Try.prog) (f := f94_2) (fs := [f94_3, f94_4, f94_5]) (off := 3) (off' := 4) (total := 7) (K := (Kd.int .u64).K) (K' := (PrK (Kd.int .u64).K (PrK (Kd.int .u64).K Kd.bool.K))) (Wf := (fun n : Int => (Lit.int .u64 n).wf = true)) (Wf' := (PrW (fun n : Int => (Lit.int .u64 n).wf = true) (PrW (fun n : Int => (Lit.int .u64 n).wf = true) (fun _ : Bool => True)))) rfl (by kernel_rfl) e2 h3
  have h1 : FOpen Try.prog [f94_1, f94_2, f94_3, f94_4, f94_5] 2 7 (PrK (Kd.int .i64).K (PrK (Kd.int .u64).K (PrK (Kd.int .u64).K (PrK (Kd.int .u64).K Kd.bool.K)))) (PrW (fun n : Int => (Lit.int .i64 n).wf = true) (PrW (fun n : Int => (Lit.int .u64 n).wf = true) (PrW (fun n : Int => (Lit.int .u64 n).wf = true) (PrW (fun n : Int => (Lit.int .u64 n).wf = true) (fun _ : Bool => True))))) := fopen_cons (P := Try.prog) (f := f94_1) (fs := [f94_2, f94_3, f94_4, f94_5]) (off := 2) (off' := 3) (total := 7) (K := (Kd.int .i64).K) (K' := (PrK (Kd.int .u64).K (PrK (Kd.int .u64).K (PrK (Kd.int .u64).K Kd.bool.K)))) (Wf := (fun n : Int => (Lit.int .i64 n).wf = true)) (Wf' := (PrW (fun n : Int => (Lit.int .u64 n).wf = true) (PrW (fun n : Int => (Lit.int .u64 n).wf = true) (PrW (fun n : Int => (Lit.int .u64 n).wf = true) (fun _ : Bool => True))))) rfl (by kernel_rfl) e1 h2
  have h0 : FOpen Try.prog [f94_0, f94_1, f94_2, f94_3, f94_4, f94_5] 0 7 (PrK kd92.K (PrK (Kd.int .i64).K (PrK (Kd.int .u64).K (PrK (Kd.int .u64).K (PrK (Kd.int .u64).K Kd.bool.K))))) (PrW W92 (PrW (fun n : Int => (Lit.int .i64 n).wf = true) (PrW (fun n : Int => (Lit.int .u64 n).wf = true) (PrW (fun n : Int => (Lit.int .u64 n).wf = true) (PrW (fun n : Int => (Lit.int .u64 n).wf = true) (fun _ : Bool => True)))))) := fopen_cons (P := Try.prog) (f := f94_0) (fs := [f94_1, f94_2, f94_3, f94_4, f94_5]) (off := 0) (off' := 2) (total := 7) (K := kd92.K) (K' := (PrK (Kd.int .i64).K (PrK (Kd.int .u64).K (PrK (Kd.int .u64).K (PrK (Kd.int .u64).K Kd.bool.K))))) (Wf := W92) (Wf' := (PrW (fun n : Int => (Lit.int .i64 n).wf = true) (PrW (fun n : Int => (Lit.int .u64 n).wf = true) (PrW (fun n : Int => (Lit.int .u64 n).wf = true) (PrW (fun n : Int => (Lit.int .u64 n).wf = true) (fun _ : Bool => True)))))) rfl (by kernel_rfl) e0 h1
  have hs : Opens Try.prog 94 K94 W94 := opens_struct (fs := #[f94_0, f94_1, f94_2, f94_3, f94_4, f94_5]) (total := 7) Try.underlying94 (by kernel_rfl) h0
  intro H enc sp held w base fuel cs x hx hz
  exact hs enc sp held w base fuel cs x hx hz
end Go.Proofs.Ytiogdomjmjiahaa.Opz
