/- WrC, pruned (slim.py). -/
import Derived.Test.YtiogdomjmjiahaaZH14
import Derived.Test.YtiogdomjmjiahaaZH11
import Derived.Test.YtiogdomjmjiahaaZH15
import Derived.Test.YtiogdomjmjiahaaZH9
import Derived.Laws.RangeAny
import Derived.Test.YtiogdomjmjiahaaZH10
import Derived.Test.YtiogdomjmjiahaaZH2
import Derived.Test.YtiogdomjmjiahaaProg
import Derived.Test.YtiogdomjmjiahaaZH3
import Derived.Lib.Hide
import Derived.Test.YtiogdomjmjiahaaZH4
import Derived.Test.YtiogdomjmjiahaaZH5
import Derived.Deep.AppendSrc
import Derived.Deep.Upon
import Derived.Laws.ResultCell
import Derived.Lib.ConvBytes
import Derived.Lib.Bytes
namespace Go.Proofs.Ytiogdomjmjiahaa.Own
open Go.RowKit Go.Proofs.Ytiogdomjmjiahaa.Arr Go.Proofs.Ytiogdomjmjiahaa.QA Go.Proofs.Ytiogdomjmjiahaa.QB Go.Proofs.Ytiogdomjmjiahaa.QC Go.Proofs.YtiogdomjmjiahaaW.PrintWords Go.Proofs.YtiogdomjmjiahaaW.PrintLast Go.Proofs.YtiogdomjmjiahaaW.PrintMore
set_option linter.unusedVariables false
set_option linter.unusedSimpArgs false
theorem own_lt {w:World} {base g:Nat} {b:List Int} {bad:Bool} (h:WrAt base g w b bad) (k:Nat) (hk:w.heap.size≤k):rowOf w g≠some k:=by
 obtain ⟨v,hg,ho⟩:=h.at_
 rw[rowOf_eq hg]
 intro e
 have:=(ho.lt k e).2
 omega
structure BlkAt (g k:Nat) (o:Obj) (W:World):Prop where
 at_:W.heap[k]?=some o
 ne:k≠g
 nr:rowOf W g≠some k
theorem BlkAt.keep {g k:Nat} {o:Obj} {W w:World} (h:BlkAt g k o W) (q:Wk g W w):BlkAt g k o w:=by
 refine ⟨(q.blk k (lt_of_heap h.at_) h.ne h.nr).trans h.at_,h.ne,fun e=>?_⟩
 rcases q.row _ e with h1 | h1
 ·exact h.nr h1
 have:=lt_of_heap h.at_;omega
theorem WrAt.lt {base g:Nat} {w:World} {b:List Int} {bad:Bool} (h:WrAt base g w b bad):g<w.heap.size:=by obtain ⟨v,hg,_⟩:=h.at_;exact lt_of_heap hg
end Go.Proofs.Ytiogdomjmjiahaa.Own
