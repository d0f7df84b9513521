/- AppO, pruned (slim.py). -/
import Derived.Test.YtiogdomjmjiahaaZH4
import Derived.Test.YtiogdomjmjiahaaZH5
import Derived.Deep.AppendSrc
import Derived.Deep.Upon
namespace Go.Proofs.Ytiogdomjmjiahaa.Own
open Go.RowKit Go.Proofs.Ytiogdomjmjiahaa.Arr Go.Proofs.YtiogdomjmjiahaaW.PrintWords Go.Proofs.YtiogdomjmjiahaaW.PrintLast Go.Proofs.YtiogdomjmjiahaaW.PrintMore
set_option linter.unusedVariables false
set_option linter.unusedSimpArgs false
theorem size_setCells (g:Nat) (vs:List Value):∀ (o:Nat) (w:World),(w.setCells g o vs).heap.size=w.heap.size:=by
 induction vs with
 |nil=>intro o w;rfl
 |cons v vs ih=>intro o w;rw[World.setCells,ih];simp[World.setCell]
section
variable {ops:Array Oper} {rest:List Oper} {o:Oper} {a:Act} {w:World} {Q:Exit→Act→World→Prop}
end
end Go.Proofs.Ytiogdomjmjiahaa.Own
