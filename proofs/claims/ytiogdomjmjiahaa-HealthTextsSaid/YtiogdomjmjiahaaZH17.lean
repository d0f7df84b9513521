/- HtU, pruned (slim.py). -/
import Derived.Test.YtiogdomjmjiahaaZH16
import Derived.Deep.MidRow
import Derived.Deep.WholeRow
import Derived.Deep.DeepCutAuto
namespace Go.Proofs.Ytiogdomjmjiahaa.Own
open Go.RowKit Go.Proofs.Ytiogdomjmjiahaa.Arr Go.Proofs.Ytiogdomjmjiahaa.QA Go.Proofs.Ytiogdomjmjiahaa.QB Go.Proofs.YtiogdomjmjiahaaW.PrintWords Go.Proofs.YtiogdomjmjiahaaW.PrintLast Go.Proofs.YtiogdomjmjiahaaW.PrintMore
set_option linter.unusedVariables false
set_option linter.unusedSimpArgs false
def But (g:Nat) (W w:World):Prop:=W.heap.size≤w.heap.size∧∀ k,k<W.heap.size→k≠g→w.heap[k]?=W.heap[k]?
theorem But.refl (g:Nat) (w:World):But g w w:=⟨Nat.le_refl _,fun _ _ _=>rfl⟩
theorem But.trans {g:Nat} {A B C:World} (h:But g A B) (k:But g B C):But g A C:=⟨Nat.le_trans h.1 k.1,fun j hj hg=>(k.2 j (Nat.lt_of_lt_of_le hj h.1) hg).trans (h.2 j hj hg)⟩
theorem But.below {g:Nat} {W w:World} (h:Below W.heap.size W w):But g W w:=⟨h.size,fun k hk _=>h.block k hk⟩
theorem heap_setCells_mid {g:Nat} {t:TypeId} (vs:List Value):∀ (o:Nat) (w:World) (cur:Array Value),w.heap[g]?=some (.cells cur t (0,0))→o+vs.length≤cur.size →
  (w.setCells g o vs).heap[g]?=some (.cells (cur.toList.take o++vs++cur.toList.drop (o+vs.length)).toArray t (0,0)):=by
 induction vs with
 |nil=>intro o w cur h _;rw[World.setCells];simpa using h
 |cons v vs ih=>
  intro o w cur h hs
  simp only[List.length_cons] at hs
  have h1:=heap_setCell_same w g o cur t v h
  have h2:=ih (o+1) _ _ h1 (by simp only[Array.size_setIfInBounds];omega)
  refine h2.trans ?_
  have e1:(cur.setIfInBounds o v).toList.take (o+1)=cur.toList.take o ++ [v]:=by
   rw[Array.toList_setIfInBounds,List.take_succ_eq_append_getElem (by simp;omega)]
   congr 1
   ·rw[List.take_set_of_le (Nat.le_refl _)]
   simp
  have e2:(cur.setIfInBounds o v).toList.drop (o+1+vs.length)=cur.toList.drop (o+(v :: vs).length):=by
   rw[Array.toList_setIfInBounds,List.drop_set_of_lt (by omega),List.length_cons]
   congr 1;omega
  rw[e1,e2,List.append_assoc (cur.toList.take o)]
  rfl
section
variable {P:Program}
theorem run_index_row (T E:TypeId) (n sz:Nat) (cs:Array Value) (i:Nat) (hu:P.underlying T=some (.array n E)) (hs:(P.info? E).map (·.size)=some sz) (d:TypeDesc) (hE:P.underlying E=some d)
  (hd:(match d with | .struct _ | .array _ _=>true | _=>false)=true) (hi:i<n) (w:World) :
  (Instr.index T (.agg cs) (.int .i64 (i:Int))).run P w=.ok (.agg (cs.extract (i*sz) (i*sz+sz))) w:=by
 have hag:(isAgg E).run P w=.ok true w:=by
  unfold isAgg
  rw[Sem.run_bind,run_underlying hE w]
  cases d <;> simp_all
 cases hq:P.info? E with
 |none=>simp[hq] at hs
 |some ie=>
  have hz:ie.size=sz:=by simpa [hq] using hs
  have hz':(sizeOf E).run P w=.ok sz w:=by simp[sizeOf,typeInfo,hq,hz]
  have hp:(part E cs (i*sz)).run P w=.ok (.agg (cs.extract (i*sz) (i*sz+sz))) w:=by
   unfold part
   rw[Sem.run_bind,hag]
   simp only[Result.andThen_ok,if_true,Sem.run_bind,hz',Sem.run_pure]
  unfold Instr.index
  simp only[asIntOf,Sem.run_bind,Sem.run_pure,Result.andThen_ok,run_underlying hu]
  rw[if_pos (by omega)]
  simp only[Sem.run_bind,hz',Result.andThen_ok,Int.toNat_natCast,hp]
end
section
variable {w:World} {g:Nat} {t:TypeId}
theorem there_of_block {L:List Value} (h:w.heap[g]?=some (.cells L.toArray t (0,0))) (o n:Nat) (hn:o+n≤L.length):w.there g o n:=fun j hj=>
 ⟨by rw[blk_cell h (o+j)];simp;omega,blk_frozen h (o+j)⟩
end
theorem below_setCells {B g:Nat} {w0:World} (hg:B≤g) (vs:List Value):∀ (o:Nat) (w:World),Below B w0 w→Below B w0 (w.setCells g o vs):=by
 induction vs with
 |nil=>intro o w h;exact h
 |cons v vs ih=>intro o w h;exact ih (o+1) _ (h.setCell (p:=⟨g,o,none⟩) hg v)
theorem but_setCells {g:Nat} {w:World} (o:Nat) (vs:List Value):But g w (w.setCells g o vs):=⟨Nat.le_of_eq (size_setCells _ _ _ _).symm,fun k hlt hk=>World.heap_setCells_other w g _ _ hlt hk⟩
section
variable {P:Program} {ops:Array Oper} {rest:List Oper} {o:Oper} {a:Act} {w:World} {Q:Exit→Act→World→Prop}
theorem wpList_on (hw:Region.wanted o (yielded ops a.tmps)=true) (h:∀ K:Act→World→Prop,(∀ a w,wpList P ops Q rest a w→K a w)→o.wp P a w K Q):wpList P ops Q (o :: rest) a w:=
 wpList_step fun K hK=>by rw[if_pos hw];exact h K hK
theorem wpList_load_row_on (hw:Region.wanted o (yielded ops a.tmps)=true) (ty:TypeId) (x:Operand) (ho:o.op=.load ty x)
  (g:Nat) (hx:a.eval x=.pointer (some ⟨g,0,none⟩)) (t:TypeId) (cs:Array Value) (fr:Nat × Nat) (d:TypeDesc) (hg:w.heap[g]?=some (.cells cs t fr))
  (hu:P.underlying ty=some d) (hd:(match d with | .struct _ | .array _ _=>true | _=>false)=true) (hi:(P.info? ty).map (·.size)=some cs.size)
  (h:wpList P ops Q rest (a.put o.dst (.agg cs)) w):wpList P ops Q (o :: rest) a w:=
 wpList_on hw fun _ hK=>wp_load_row ty x ho g hx t cs fr d hg hu hd hi (hK _ _ h)
theorem wpList_load_mid_on (hw:Region.wanted o (yielded ops a.tmps)=true) (ty:TypeId) (x:Operand) (ho:o.op=.load ty x)
  (b k:Nat) (hx:a.eval x=.pointer (some ⟨b,k,none⟩)) (cs:List Value) (d:TypeDesc) (hc:w.rangeAt b k cs)
  (hu:P.underlying ty=some d) (hd:d.isRow=true) (hi:(P.info? ty).map (·.size)=some cs.length)
  (h:wpList P ops Q rest (a.put o.dst (.agg cs.toArray)) w):wpList P ops Q (o :: rest) a w:=
 wpList_on hw fun _ hK=>wp_load_mid ty x ho b k hx cs d hc hu hd hi (hK _ _ h)
end
end Go.Proofs.Ytiogdomjmjiahaa.Own
