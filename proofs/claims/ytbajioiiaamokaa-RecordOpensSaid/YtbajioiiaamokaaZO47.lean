/- RdL, pruned (slim.py). -/
import Derived.Test.YtbajioiiaamokaaZO44
import Derived.Test.YtbajioiiaamokaaZO45
import Derived.Test.YtbajioiiaamokaaZO46
namespace Go.Proofs.Ytbajioiiaamokaa.Own
open Go.RowKit Go.Proofs.Ytbajioiiaamokaa.Arr Go.Proofs.Ytbajioiiaamokaa.QB Go.Proofs.YtbajioiiaamokaaW.PrintWords Go.Proofs.YtbajioiiaamokaaW.PrintLast Go.Proofs.YtbajioiiaamokaaW.PrintMore
set_option linter.unusedVariables false
set_option linter.unusedSimpArgs false
attribute [-go_sem] Instr.build
section
variable {P:Program} {ops:Array Oper} {rest:List Oper} {o:Oper} {a:Act} {w:World} {Q:Exit→Act→World→Prop}
theorem wpList_on (hw:Region.wanted o (yielded ops a.tmps)=true) (h:∀ K:Act→World→Prop,(∀ a w,wpList P ops Q rest a w→K a w)→o.wp P a w K Q):wpList P ops Q (o :: rest) a w:=
 wpList_step fun K hK=>by rw[if_pos hw];exact h K hK
theorem wpList_load_row_on (hw:Region.wanted o (yielded ops a.tmps)=true) (ty:TypeId) (x:Operand) (ho:o.op=.load ty x)
  (g:Nat) (hx:a.eval x=.pointer (some ⟨g,0,none⟩)) (t:TypeId) (cs:Array Value) (fr:Nat × Nat) (d:TypeDesc) (hg:w.heap[g]?=some (.cells cs t fr))
  (hu:P.underlying ty=some d) (hd:(match d with | .struct _ | .array _ _=>true | _=>false)=true) (hi:(P.info? ty).map (·.size)=some cs.size)
  (h:wpList P ops Q rest (a.put o.dst (.agg cs)) w):wpList P ops Q (o :: rest) a w:=
 wpList_on hw fun _ hK=>wp_load_row ty x ho g hx t cs fr d hg hu hd hi (hK _ _ h)
end
theorem slRead_wrap (l:List Int) (n:Nat) (hl:l.length≤n):((slRead l).getD slZero).wrap.length≤n:=by
 unfold slRead
 split
 ·exact Nat.zero_le _
 split
 ·show (l.drop 24).length≤n;rw[List.length_drop];omega
 exact Nat.zero_le _
theorem rcRead_len (l:List Int) (n:Nat) (hl:l.length≤n) (r:RcT) (h:rcRead l=some r):∀ j,j<6→(rlist r j).length≤n:=by
 unfold rcRead at h
 split at h
 ·obtain rfl:rcHead l=r:=by injection h
  intro j hj
  match j with
  |0=>show ((l.take 32).drop 16).length≤n;rw[List.length_drop,List.length_take];omega
  |1=>show ((l.take 80).drop 48).length≤n;rw[List.length_drop,List.length_take];omega
  |k+2=>exact slRead_wrap _ _ (by unfold partR;rw[List.length_drop,List.length_take];omega)
 cases h
theorem rlist_zero (j:Nat):(rlist rcZero j).length≤1000000:=by
 match j with
 |0=>exact Nat.zero_le _
 |1=>exact Nat.zero_le _
 |k+2=>exact Nat.zero_le _
end Go.Proofs.Ytbajioiiaamokaa.Own
