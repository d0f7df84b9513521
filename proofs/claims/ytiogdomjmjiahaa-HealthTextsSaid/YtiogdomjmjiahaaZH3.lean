/- Arr, pruned (slim.py). -/
import Derived.WalkKit
import Derived.KernelRfl
import Derived.RowKit3
import Derived.WalkLawsBesides
import Derived.Deep.LoopGhost
import Derived.Deep.MidRow
import Derived.Deep.WholeRow
import Derived.Laws.BitsLemmas
import Derived.Laws.CopyOwn
import Derived.Lib.Hide
import Derived.Test.YtiogdomjmjiahaaZH1
namespace Go.Proofs.Ytiogdomjmjiahaa.Arr
open Go.RowKit Go.Proofs.YtiogdomjmjiahaaW.PrintWords Go.Proofs.YtiogdomjmjiahaaW.PrintLast Go.Proofs.YtiogdomjmjiahaaW.PrintMore
set_option linter.unusedVariables false
set_option linter.unusedSimpArgs false
theorem heap_skip (w:World) (o:Obj) (i:Nat) (h:i≠w.heap.size):(w.alloc o).heap[i]?=w.heap[i]?:=by
 show (w.heap.push o)[i]?=_
 rw[Array.getElem?_push,if_neg h]
theorem lt_of_heap {w:World} {g:Nat} {o:Obj} (h:w.heap[g]?=some o):g<w.heap.size:=(Array.getElem?_eq_some_iff.1 h).1
theorem heap_below {w w1:World} {g:Nat} {o:Obj} (h:w.heap[g]?=some o) (hb:Below w.heap.size w w1):w1.heap[g]?=some o:=(hb.block g (lt_of_heap h)).trans h
theorem C_range {k:IntKind} {w:World} {A:Option Addr} {n:Nat} {l:List Int} (h:Kd.C (Kd.int k) w A n l) (hn:0<n) :
  ∃ b o,A=some ⟨b,o,none⟩∧w.rangeAt b o (l.map (Value.int k)):=by
 have h2:=Kd.reads_of_C (d:=(0:Int)) h
 obtain ⟨ad,rfl,hc⟩:=h2.2.2 hn
 obtain ⟨b,o,s⟩:=ad
 have h0:=hc 0 hn
 have hs:s=none:=by
  cases s with
  |none=>rfl
  |some s=>
   simp[Addr.add,World.cell?] at h0
   split at h0 <;> simp at h0
 subst hs
 refine ⟨b,o,rfl,fun j v hj=>?_⟩
 obtain ⟨hl,hv⟩:=List.getElem?_eq_some_iff.1 hj
 simp only[List.length_map] at hl
 have:=hc j (by have:=h2.1;omega)
 rw[Addr.add_mid] at this
 rw[this]
 simp only[List.getElem_map] at hv
 rw[← hv]
 simp[hl]
theorem C_cell {k:IntKind} {w:World} {b o:Nat} {l:List Int} (h:w.rangeAt b o (l.map (Value.int k))) (j:Nat) (hj:j<l.length):w.cell? ⟨b,o+j,none⟩=some (.int k (l.getD j 0)):=by
 refine h j _ ?_
 simp[hj]
section
variable {P:Program}
end
end Go.Proofs.Ytiogdomjmjiahaa.Arr
