/- Arr, pruned (slim.py). -/
import Derived.WalkKit
import Derived.KernelRfl
import Derived.RowKit3
import Derived.WalkLawsBesides
import Derived.Deep.LoopGhost
import Derived.Deep.MidRow
import Derived.Deep.WholeRow
import Derived.Laws.BitsLemmas
import Derived.Laws.CopyOwn
import Derived.Lib.Hide
import Derived.Test.YtbajioiiaamokaaZB1
namespace Go.Proofs.Ytbajioiiaamokaa.Arr
open Go.RowKit Go.Proofs.YtbajioiiaamokaaW.PrintWords Go.Proofs.YtbajioiiaamokaaW.PrintLast Go.Proofs.YtbajioiiaamokaaW.PrintMore
set_option linter.unusedVariables false
set_option linter.unusedSimpArgs false
def ints (k:IntKind) (l:List Int):Array Value:=(l.map (Value.int k)).toArray
theorem ints_size (k:IntKind) (l:List Int):(ints k l).size=l.length:=by simp[ints]
theorem ints_get (k:IntKind) (l:List Int) (i:Nat) (h:i<l.length):(ints k l)[i]?=some (.int k (l.getD i 0)):=by
 simp[ints,h]
theorem ints_set (k:IntKind) (l:List Int) (i:Nat) (v:Int):(ints k l).setIfInBounds i (.int k v)=ints k (l.set i v):=by
 simp[ints,List.map_set]
theorem ints_one (k:IntKind) (l:List Int):(ints k l).all (·.oneCell')=true:=by
 refine Array.all_eq_true_iff_forall_mem.2 fun v hv=>?_
 simp[ints] at hv
 obtain ⟨x,_,rfl⟩:=hv
 rfl
def zer (n:Nat):List Int:=List.replicate n 0
theorem zer_length (n:Nat):(zer n).length=n:=by simp[zer]
theorem sz_eq {k:IntKind} {l l':List Int} (h:l.length=l'.length):(ints k l).size=(ints k l').size:=by rw[ints_size,ints_size,h]
theorem heap_at (w:World) (o:Obj) (i:Nat) (h:i=w.heap.size):(w.alloc o).heap[i]?=some o:=by
 subst h;exact heap_alloc_last w o
theorem heap_skip (w:World) (o:Obj) (i:Nat) (h:i≠w.heap.size):(w.alloc o).heap[i]?=w.heap[i]?:=by
 show (w.heap.push o)[i]?=_
 rw[Array.getElem?_push,if_neg h]
theorem lt_of_heap {w:World} {g:Nat} {o:Obj} (h:w.heap[g]?=some o):g<w.heap.size:=(Array.getElem?_eq_some_iff.1 h).1
theorem heap_below {w w1:World} {g:Nat} {o:Obj} (h:w.heap[g]?=some o) (hb:Below w.heap.size w w1):w1.heap[g]?=some o:=(hb.block g (lt_of_heap h)).trans h
theorem ints_cell {w:World} {g:Nat} {k:IntKind} {l:List Int} {t:TypeId} {fr:Nat × Nat} (h:w.heap[g]?=some (.cells (ints k l) t fr)) (j:Nat) (hj:j<l.length):w.cell? ⟨g,j,none⟩=some (.int k (l.getD j 0)):=by
 rw[cell_of_row w g j _ _ _ h];exact ints_get _ _ _ hj
theorem ints_free {w:World} {g:Nat} {k:IntKind} {l:List Int} {t:TypeId} (h:w.heap[g]?=some (.cells (ints k l) t (0,0))) (j:Nat):w.frozen? ⟨g,j,none⟩=false:=frozen_of_row w g j _ _ h
theorem reads_block {w:World} {g:Nat} {k:IntKind} {l:List Int} {t:TypeId} {fr:Nat × Nat} (h:w.heap[g]?=some (.cells (ints k l) t fr)) (hl:l.length≤9223372036854775807):ReadsInt w k (some ⟨g,0,none⟩) l.length l:=
 ⟨rfl,hl,fun _=>⟨_,rfl,fun j hj=>by rw[add_plain,cell_of_row w g j _ _ _ h,ints_get k l j hj]⟩⟩
theorem C_of_readsInt {w:World} {k:IntKind} {A:Option Addr} {n:Nat} {l:List Int} (h:ReadsInt w k A n l):Kd.C (Kd.int k) w A n l:=Kd.C_of_reads (d:=(0:Int)) (h1:=fun _=>rfl) h
theorem readsInt_of_C {w:World} {k:IntKind} {A:Option Addr} {n:Nat} {l:List Int} (h:Kd.C (Kd.int k) w A n l):ReadsInt w k A n l:=Kd.reads_of_C (d:=(0:Int)) h
theorem C_block {w:World} {g:Nat} {k:IntKind} {l:List Int} {t:TypeId} {fr:Nat × Nat} (h:w.heap[g]?=some (.cells (ints k l) t fr)) (hl:l.length≤9223372036854775807):Kd.C (Kd.int k) w (some ⟨g,0,none⟩) l.length l:=C_of_readsInt (reads_block h hl)
theorem own_empty (W:World) (base e g:Nat) (k:IntKind) (hg:g=W.heap.size) (hb:base≤W.heap.size):(W.alloc (.cells #[] e)).ownsRow base e 1 (.slice (some ⟨g,0,none⟩) 0 0) ([]:List Int).length (nums k []):=by subst hg;exact own_lit W base e k [] hb (by simp)
theorem R_of_nums {k:IntKind} {e:Nat} {w:World} {base:Nat} {v:Value} {xs:List Int} (h:w.ownsRow base e 1 v xs.length (nums k xs)):Kd.R (Kd.int k) e w base (fun _=>True) v xs:=Kd.R_of_own h (fun _ _=>trivial)
theorem nums_of_R {k:IntKind} {e:Nat} {w:World} {base:Nat} {ok:Nat→Prop} {v:Value} {xs:List Int} (h:Kd.R (Kd.int k) e w base ok v xs):w.ownsRow base e 1 v xs.length (nums k xs):=Kd.own_of_R h
theorem C_range {k:IntKind} {w:World} {A:Option Addr} {n:Nat} {l:List Int} (h:Kd.C (Kd.int k) w A n l) (hn:0<n) :
  ∃ b o,A=some ⟨b,o,none⟩∧w.rangeAt b o (l.map (Value.int k)):=by
 have h2:=Kd.reads_of_C (d:=(0:Int)) h
 obtain ⟨ad,rfl,hc⟩:=h2.2.2 hn
 obtain ⟨b,o,s⟩:=ad
 have h0:=hc 0 hn
 have hs:s=none:=by
  cases s with
  |none=>rfl
  |some s=>
   simp[Addr.add,World.cell?] at h0
   split at h0 <;> simp at h0
 subst hs
 refine ⟨b,o,rfl,fun j v hj=>?_⟩
 obtain ⟨hl,hv⟩:=List.getElem?_eq_some_iff.1 hj
 simp only[List.length_map] at hl
 have:=hc j (by have:=h2.1;omega)
 rw[Addr.add_mid] at this
 rw[this]
 simp only[List.getElem_map] at hv
 rw[← hv]
 simp[hl]
theorem C_cell {k:IntKind} {w:World} {b o:Nat} {l:List Int} (h:w.rangeAt b o (l.map (Value.int k))) (j:Nat) (hj:j<l.length):w.cell? ⟨b,o+j,none⟩=some (.int k (l.getD j 0)):=by
 refine h j _ ?_
 simp[hj]
section
variable {P:Program}
theorem run_index_ints (T E:TypeId) (n:Nat) (k:IntKind) (l:List Int) (i:Nat) (hu:P.underlying T=some (.array n E)) (hs:(P.info? E).map (·.size)=some 1) (d:TypeDesc) (hE:P.underlying E=some d)
  (hd:(match d with | .struct _ | .array _ _=>true | _=>false)=false) (hl:l.length=n) (hi:i<n) (w:World) :
  (Instr.index T (.agg (ints k l)) (.int .i64 (i:Int))).run P w=.ok (.int k (l.getD i 0)) w:=by
 have hag:(isAgg E).run P w=.ok false w:=by
  unfold isAgg
  rw[Sem.run_bind,run_underlying hE w]
  cases d <;> simp_all
 cases hq:P.info? E with
 |none=>simp[hq] at hs
 |some ie=>
  have hz:ie.size=1:=by simpa [hq] using hs
  have hz':(sizeOf E).run P w=.ok 1 w:=by simp[sizeOf,typeInfo,hq,hz]
  have hp:(part E (ints k l) i).run P w=.ok (.int k (l.getD i 0)) w:=by
   unfold part
   rw[Sem.run_bind,hag]
   simp only[Result.andThen_ok,Bool.false_eq_true,if_false]
   rw[ints_get k l i (by omega)]
   rfl
  unfold Instr.index
  simp only[asIntOf,Sem.run_bind,Sem.run_pure,Result.andThen_ok,run_underlying hu]
  rw[if_pos (by omega)]
  simp only[Sem.run_bind,hz',Result.andThen_ok,Int.toNat_natCast,Nat.mul_one,hp]
theorem cut2 (t e:TypeId) (kl kh:IntKind) (k:IntKind) {i:TypeInfo} (ht:P.underlying t=some (.slice e)) (hi:P.info? e=some i) (hsz:i.size=1) (A:Option Addr) (n c lo hi_:Nat) (xs:List Int) (h1:lo≤hi_) (h2:hi_≤n) (h3:n≤c) :
  ∃ A':Option Addr,(∀ W:World,(Instr.slice t (.slice A n c) (some (.int kl (lo:Int))) (some (.int kh (hi_:Int))) none).run P W=.ok (.slice A' (hi_ - lo) (c - lo)) W) ∧
   ∀ w:World,ReadsInt w k A n xs→ReadsInt w k A' (hi_ - lo) ((xs.take hi_).drop lo):=by
 refine ⟨if c=lo then A else A.map (·.add lo),fun W=>?_,fun w h=>?_⟩
 ·have hel:P.elem t=e:=by simp[Program.elem,ht]
  have hu:P.underlying t=some (.slice (P.elem t)):=by rw[hel];exact ht
  rw[run_slice_lh W t A n c hu kl kh (lo:Int) (hi_:Int) (Int.natCast_nonneg _) (by omega) (by omega),hel]
  simp[sizeOf,typeInfo,hi,hsz,sliced,Result.andThen]
 exact (h.take_ hi_ h2).drop_ lo h1 (by omega)
end
end Go.Proofs.Ytbajioiiaamokaa.Arr
