/- CmY, pruned (slim.py). -/
import Derived.Test.YtiogdomjmjiahaaZH4
import Derived.Test.YtiogdomjmjiahaaZH5
import Derived.Deep.AppendSrc
import Derived.Deep.Upon
import Derived.Laws.ResultCell
import Derived.Test.YtiogdomjmjiahaaZH8
namespace Go.Proofs.Ytiogdomjmjiahaa.Own
open Go.RowKit Go.Proofs.Ytiogdomjmjiahaa.Arr Go.Proofs.Ytiogdomjmjiahaa.QA Go.Proofs.Ytiogdomjmjiahaa.QB Go.Proofs.YtiogdomjmjiahaaW.PrintWords Go.Proofs.YtiogdomjmjiahaaW.PrintLast Go.Proofs.YtiogdomjmjiahaaW.PrintMore
set_option linter.unusedVariables false
set_option linter.unusedSimpArgs false
theorem rd_nat (l:List Int) (i:Nat):rd l (i:Int)=l.getD i 0:=by unfold rd;rw[Int.toNat_natCast]
theorem drop_cons (a:List Int) (i:Nat) (h:i<a.length):a.drop i=a.getD i 0 :: a.drop (i+1):=by
 rw[List.drop_eq_getElem_cons h,List.getD_eq_getElem?_getD,List.getElem?_eq_getElem h];rfl
end Go.Proofs.Ytiogdomjmjiahaa.Own
