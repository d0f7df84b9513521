/- WrA, pruned (slim.py). -/
import Derived.Test.YtiogdomjmjiahaaZH10
import Derived.Test.YtiogdomjmjiahaaZH13
namespace Go.Proofs.Ytiogdomjmjiahaa.Own
open Go.RowKit Go.Proofs.Ytiogdomjmjiahaa.Arr Go.Proofs.Ytiogdomjmjiahaa.QA Go.Proofs.Ytiogdomjmjiahaa.QB Go.Proofs.YtiogdomjmjiahaaW.PrintWords Go.Proofs.YtiogdomjmjiahaaW.PrintLast Go.Proofs.YtiogdomjmjiahaaW.PrintMore
set_option linter.unusedVariables false
set_option linter.unusedSimpArgs false
theorem own_ne {w:World} {base e size n g:Nat} {v:Value} {xs:List Value} {cs:Array Value} {t:TypeId} {fr:Nat × Nat} (h:w.ownsRow base e size v n xs) (hg:w.heap[g]?=some (.cells cs t fr)) (ht:t≠e):∀ k,v.ownBlock=some k→k≠g:=by
 rintro k hk rfl
 rcases h.2 with ⟨rfl,_⟩ | ⟨g',cap,cur,rfl,_,hgg,_⟩
 ·simp[Value.ownBlock] at hk
 simp[Value.ownBlock] at hk
 subst hk
 rw[hg] at hgg
 exact ht (by injection hgg with e;injection e)
structure WrAt (base g:Nat) (w:World) (b:List Int) (bad:Bool):Prop where
 lo:base≤g
 le:base≤w.heap.size
 at_:∃ v,w.heap[g]?=some (.cells #[v,.bool bad] 135 (0,0))∧w.ownsRow base 5 1 v b.length (nums .u8 b)
theorem WrAt.keep {base g:Nat} {w w':World} {b:List Int} {bad:Bool} (h:WrAt base g w b bad) (hb:Below w.heap.size w w'):WrAt base g w' b bad:=by
 obtain ⟨v,hg,ho⟩:=h.at_
 exact ⟨h.lo,Nat.le_trans h.le hb.size,v,heap_below hg hb,own_move ho (fun k hk=>hb.block k (ho.lt k hk).2)⟩
def rowOf (w:World) (g:Nat):Option Nat:=match w.heap[g]? with | some (.cells cs _ _)=>(cs.getD 0 undef).ownBlock | _=>none
structure Wk (g:Nat) (W w:World):Prop where
 size:W.heap.size≤w.heap.size
 blk:∀ k,k<W.heap.size→k≠g→rowOf W g≠some k→w.heap[k]?=W.heap[k]?
 row:∀ k,rowOf w g=some k→rowOf W g=some k∨W.heap.size≤k
theorem Wk.refl (g:Nat) (w:World):Wk g w w:=⟨Nat.le_refl _,fun _ _ _ _=>rfl,fun _ h=>Or.inl h⟩
theorem Wk.trans {g:Nat} {A B C:World} (h:Wk g A B) (k:Wk g B C):Wk g A C:=by
 refine ⟨Nat.le_trans h.size k.size,fun j hj hg hr=>?_,fun j hj=>?_⟩
 ·refine (k.blk j (Nat.lt_of_lt_of_le hj h.size) hg (fun e=>?_)).trans (h.blk j hj hg hr)
  rcases h.row j e with h1 | h1
  ·exact hr h1
  omega
 rcases k.row j hj with h1 | h1
 ·exact h.row j h1
 exact Or.inr (Nat.le_trans h.size h1)
theorem rowOf_eq {w:World} {g:Nat} {v c:Value} {t:TypeId} {fr:Nat × Nat} (h:w.heap[g]?=some (.cells #[v,c] t fr)):rowOf w g=v.ownBlock:=by
 unfold rowOf
 rw[h]
 rfl
theorem Wk.below {g:Nat} {W w:World} (h:Below W.heap.size W w) (hg:g<W.heap.size):Wk g W w:=by
 refine ⟨h.size,fun k hk _ _=>h.block k hk,fun k hk=>Or.inl ?_⟩
 unfold rowOf at hk ⊢
 rw[h.block g hg] at hk
 exact hk
end Go.Proofs.Ytiogdomjmjiahaa.Own
