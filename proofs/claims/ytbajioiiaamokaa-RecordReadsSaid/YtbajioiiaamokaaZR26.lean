/- DerP, pruned (slim.py). -/
import Derived.Test.YtbajioiiaamokaaZR25
namespace Go.Proofs.Ytbajioiiaamokaa.Own
open Go.RowKit Go.Proofs.Ytbajioiiaamokaa.Arr Go.Proofs.Ytbajioiiaamokaa.QB Go.Proofs.YtbajioiiaamokaaW.PrintWords Go.Proofs.YtbajioiiaamokaaW.PrintLast Go.Proofs.YtbajioiiaamokaaW.PrintMore
set_option linter.unusedVariables false
set_option linter.unusedSimpArgs false
theorem refTag_at (key text : List Int) (hk : ∀ x ∈ key,byt x) (ht : ∀ x ∈ text,byt x) (hkl : key.length ≤ 1000) (htl : text.length ≤ 1000) (n : Nat) (hn : 4000 ≤ n) : nepentheref03_Tag.f n key text = some (tagB (blockL key) text) :=
 fixk (f := fun k => nepentheref03_Tag.f k key text) (c := 2000 + key.length + text.length) (fun k => by have := refTag_eq key text hk ht (by omega) (by omega) k;rw [show k + 2000 + key.length + text.length = k + (2000 + key.length + text.length) from by omega] at this;exact this) n (by omega)
end Go.Proofs.Ytbajioiiaamokaa.Own
