/- UtB, pruned (slim.py). -/
import Derived.Test.YtbajioiiaamokaaZB27
namespace Go.Proofs.Ytbajioiiaamokaa.Own
open Go.RowKit Go.Proofs.Ytbajioiiaamokaa.Arr Go.Proofs.Ytbajioiiaamokaa.QB Go.Proofs.YtbajioiiaamokaaW.PrintWords Go.Proofs.YtbajioiiaamokaaW.PrintLast Go.Proofs.YtbajioiiaamokaaW.PrintMore
set_option linter.unusedVariables false
set_option linter.unusedSimpArgs false
theorem drawn_below {w w':World} (h:Drawn0 w w'):Below w.heap.size w w':=by obtain ⟨n,rfl⟩:=h.out;exact pw_below_drewN (Below.refl _ _) n
def But (g:Nat) (W w:World):Prop:=W.heap.size≤w.heap.size∧∀ k,k<W.heap.size→k≠g→w.heap[k]?=W.heap[k]?
theorem But.below {g:Nat} {W w:World} (h:Below W.heap.size W w):But g W w:=⟨h.size,fun k hk _=>h.block k hk⟩
section
variable {P:Program}
theorem run_alloc (w:World) (ty:TypeId) (Z:Array Value) (hz:∀ W:World,(zeroValue ty).run P W=.ok (.agg Z) W):(Instr.alloc ty true (.tuple #[])).run P w=.ok (.pointer (some ⟨w.heap.size,0,none⟩)) (w.alloc (.cells Z ty)):=by
 unfold Instr.alloc
 simp only[Sem.run_bind,hz,Result.andThen_ok]
 go_simp
theorem run_empty (w:World) (t e:TypeId) (n:Nat) (hu:P.underlying t=some (.slice e)) (hs:(P.info? e).map (·.size)=some n):(Instr.buildSlice t 0 #[]).run P w=.ok (.slice (some ⟨w.heap.size,0,none⟩) 0 0) (w.alloc (.cells #[] e)):=by
 cases hq:P.info? e with
 |none=>simp[hq] at hs
 |some ie=>
  unfold Instr.buildSlice
  simp only[Sem.run_bind,run_underlying hu,Result.andThen_ok,sizeOf,typeInfo,hq]
  go_simp
section
variable {ops:Array Oper} {Q:Exit→Act→World→Prop} {oi:Oper} {N:Option Tmp} {a:Act} {w:World} {K:Act→World→Prop}
theorem step_alloc (ty:TypeId) (Z:Array Value) (hw:Region.wanted oi (yielded ops a.tmps)=true) (hN:oi.dst=N) (ho:oi.op=.alloc ty) (hz:∀ W:World,(zeroValue ty).run P W=.ok (.agg Z) W)
  (h:∀ g w1,w1.heap[g]?=some (.cells Z ty (0,0))→w.heap.size≤g→Below w.heap.size w w1→K (a.put N (.pointer (some ⟨g,0,none⟩))) w1) :
  if Region.wanted oi (yielded ops a.tmps)=true then Oper.wp P oi a w K Q else K (a.put N undef) w:=by
 refine value_ (w1:=w.alloc (.cells Z ty)) (v:=.pointer (some ⟨w.heap.size,0,none⟩)) hw hN ?_ (h _ _ (heap_alloc_last w _) (Nat.le_refl _) ((Below.refl _ _).alloc (Nat.le_refl _) _))
 unfold execOp
 simp only[ho,Sem.run_bind,run_alloc w ty Z hz,Result.andThen_ok,Sem.run_pure]
theorem step_empty (t e:TypeId) (hw:Region.wanted oi (yielded ops a.tmps)=true) (hN:oi.dst=N) (ho:oi.op=.buildSlice t 0 #[]) (hu:P.underlying t=some (.slice e)) (hs:(P.info? e).map (·.size)=some 1)
  (h:∀ g w1,w1.ownsRow w.heap.size e 1 (.slice (some ⟨g,0,none⟩) 0 0) ([]:List Int).length (nums .u8 [])→Below w.heap.size w w1→K (a.put N (.slice (some ⟨g,0,none⟩) 0 0)) w1) :
  if Region.wanted oi (yielded ops a.tmps)=true then Oper.wp P oi a w K Q else K (a.put N undef) w:=by
 refine value_ (w1:=w.alloc (.cells #[] e)) (v:=.slice (some ⟨w.heap.size,0,none⟩) 0 0) hw hN ?_ (h _ _ (own_empty w _ _ _ .u8 rfl (Nat.le_refl _)) ((Below.refl _ _).alloc (Nat.le_refl _) _))
 unfold execOp
 simp only[ho,Sem.run_bind,List.map_toArray,List.map_nil,run_empty w t e 1 hu hs,Result.andThen_ok,Sem.run_pure]
theorem exec_store_row (w:World) (op:Oper) (ty:TypeId) (x y:Operand) (ho:op.op=.store ty x y) (g:Nat) (cs:Array Value) (hx:a.eval x=.pointer (some ⟨g,0,none⟩)) (hy:a.eval y=.agg cs) (t:TypeId) (c:Array Value)
  (hg:w.heap[g]?=some (.cells c t (0,0))) (hi:(P.info? ty).map (·.size)=some cs.size) (hs:c.size=cs.size) (h1:cs.all (·.oneCell')=true):(execOp a.eval op).run P w=.ok .skip (w.setRow g cs):=by
 unfold execOp
 have hr:=run_storeVar_row (P:=P) w g t ty c cs hg hi hs h1
 simp only[ho,hx,hy,Instr.storeAt,Instr.sureAddr,Sem.run_bind,Sem.run_pure,Result.andThen_ok,hr]
theorem step_store (ty:TypeId) (x y:Operand) (g:Nat) (cs:Array Value) (t:TypeId) (c:Array Value) (hw:Region.wanted oi (yielded ops a.tmps)=true) (hN:oi.dst=none) (ho:oi.op=.store ty x y) (hx:a.eval x=.pointer (some ⟨g,0,none⟩)) (hy:a.eval y=.agg cs)
  (hg:w.heap[g]?=some (.cells c t (0,0))) (hi:(P.info? ty).map (·.size)=some cs.size) (hs:c.size=cs.size) (h1:cs.all (·.oneCell')=true)
  (h:∀ w1,w1.heap[g]?=some (.cells cs t (0,0))→But g w w1→(∀ B,B≤g→Below B w w1)→K a w1) :
  if Region.wanted oi (yielded ops a.tmps)=true then Oper.wp P oi a w K Q else K (a.put none undef) w:=by
 refine skip_ (w1:=w.setRow g cs) hw hN (exec_store_row w oi ty x y ho g cs hx hy t c hg hi hs h1) (h _ (setRow_heap w g c cs t (0,0) hg) ⟨by simp[World.setRow],fun k _ hk=>setRow_other w g k cs hk⟩ (fun B hB=>below_setRow (Below.refl _ _) hB cs))
end
theorem results_ct {fn:Func} {p u:Tmp} {ty:TypeId} (h:fn.results=#[.cell p ty,.tmp u]) (tmps:Array Value) (w:World) (g:Nat) (t:TypeId) (cs:Array Value) (fr:Nat × Nat) (d:TypeDesc)
  (hp:tmps.getD p undef=.pointer (some ⟨g,0,none⟩)) (hg:w.heap[g]?=some (.cells cs t fr))
  (hu:P.underlying ty=some d) (hd:(match d with | .struct _ | .array _ _=>true | _=>false)=true) (hi:(P.info? ty).map (·.size)=some cs.size) {x:Value} (hx:tmps.getD u undef=x) :
  (results fn tmps).run P w=.ok (.tuple #[.agg cs,x]) w:=by
 have hp':tmps[p]?.getD undef=.pointer (some ⟨g,0,none⟩):=by simpa using hp
 subst hx
 simp[results,h,hp',asAddr,run_loadVar_row w g t ty cs fr d hg hu hd hi]
theorem results_ctt {fn:Func} {p u v:Tmp} {ty:TypeId} (h:fn.results=#[.cell p ty,.tmp u,.tmp v]) (tmps:Array Value) (w:World) (g:Nat) (t:TypeId) (cs:Array Value) (fr:Nat × Nat) (d:TypeDesc)
  (hp:tmps.getD p undef=.pointer (some ⟨g,0,none⟩)) (hg:w.heap[g]?=some (.cells cs t fr))
  (hu:P.underlying ty=some d) (hd:(match d with | .struct _ | .array _ _=>true | _=>false)=true) (hi:(P.info? ty).map (·.size)=some cs.size) {x y:Value} (hx:tmps.getD u undef=x) (hy:tmps.getD v undef=y) :
  (results fn tmps).run P w=.ok (.tuple #[.agg cs,x,y]) w:=by
 have hp':tmps[p]?.getD undef=.pointer (some ⟨g,0,none⟩):=by simpa using hp
 subst hx hy
 simp[results,h,hp',asAddr,run_loadVar_row w g t ty cs fr d hg hu hd hi]
end
section
variable {ops:Array Oper} {Q:Exit→Act→World→Prop} {oi:Oper} {N:Option Tmp} {a:Act} {w:World} {K:Act→World→Prop}
theorem step_append (base:Nat) (x y:Operand) (T:TypeId) (v:Value) (xs:List Int) (src:Value) (m:List Int) (hw:Region.wanted oi (yielded ops a.tmps)=true) (hN:oi.dst=N) (ho:oi.op=.call { callee:=.builtin .append,args:=#[x,y],argTypes:=#[23,T] })
  (hx:a.eval x=v) (hy:a.eval y=src) (hsrc:Src Try.prog 1 T src m.length (m.map (Value.int .u8)) w) (hown:w.ownsRow base 5 1 v xs.length (nums .u8 xs)) (hbase:base≤w.heap.size) (hb:xs.length+m.length≤70368744177664)
  (h:∀ A c w1,w1.ownsRow base 5 1 (.slice A (xs++m).length c) (xs++m).length (nums .u8 (xs++m))→w.grownBy w1 v.ownBlock→(∀ B w0,B≤base→Below B w0 w→Below B w0 w1)→K (a.put N (.slice A (xs++m).length c)) w1) :
  if Region.wanted oi (yielded ops a.tmps)=true then Oper.wp Try.prog oi a w K Q else K (a.put N undef) w:=by
 obtain ⟨v',w1,hrun,ho1,hgr⟩:=own_append base oi.type T v xs src m hsrc hown hbase hb
 obtain ⟨A,c,rfl⟩:=own_slice ho1
 exact value_ hw hN (exec_append w x y _ _ ho v src hx hy hrun) (h A c w1 ho1 hgr (fun B w0 hB hw0=>hw0.grown hgr (Nat.le_trans hB hbase) (fun k hk=>Nat.le_trans hB (hown.lt k hk).1)))
end
section
variable {ops:Array Oper} {Q:Exit→Act→World→Prop} {oi:Oper} {N:Option Tmp} {a:Act} {w:World} {K:Act→World→Prop}
theorem step_setslice (x y:Operand) (g o:Nat) (A:Option Addr) (n c:Nat) (t:TypeId) (cs:Array Value) (hw:Region.wanted oi (yielded ops a.tmps)=true) (hN:oi.dst=none) (ho:oi.op=.store 23 x y) (hx:a.eval x=.pointer (some ⟨g,o,none⟩)) (hy:a.eval y=.slice A n c)
  (hg:w.heap[g]?=some (.cells cs t (0,0))) (hlt:o<cs.size)
  (h:∀ w1,w1.heap[g]?=some (.cells (cs.setIfInBounds o (.slice A n c)) t (0,0))→But g w w1→(∀ B,B≤g→Below B w w1)→K a w1) :
  if Region.wanted oi (yielded ops a.tmps)=true then Oper.wp Try.prog oi a w K Q else K (a.put none undef) w:=by
 have hq:=(blk_cell hg o).trans (Array.getElem?_eq_getElem hlt)
 have hf:=blk_frozen hg o
 refine skip_ (w1:=w.setCell ⟨g,o,none⟩ (.slice A n c)) hw hN ?_ (h _ (heap_setCell_same w g o _ _ _ hg) ⟨by simp[World.setCell],fun k _ hk=>heap_setCell_other w ⟨g,o,none⟩ k _ hk⟩ (fun B hB=>(Below.refl _ _).setCell (p:=⟨g,o,none⟩) hB _))
 unfold execOp
 simp only[ho,hx,hy]
 go_simp
end
theorem own_less {W:World} {b base n:Nat} {e:TypeId} {size:Nat} {v:Value} {xs:List Value} (h:W.ownsRow b e size v n xs) (hle:base≤b):W.ownsRow base e size v n xs:=by
 refine ⟨h.1,?_⟩
 rcases h.2 with h2 | ⟨g,cap,cur,rfl,hg,r⟩
 ·exact .inl h2
 exact .inr ⟨g,cap,cur,rfl,Nat.le_trans hle hg,r⟩
theorem C_of_own {w:World} {base:Nat} {A:Option Addr} {n c:Nat} {l:List Int} (h:w.ownsRow base 5 1 (.slice A n c) l.length (nums .u8 l)):n=l.length∧l.length≤c∧Kd.C (Kd.int .u8) w A l.length l:=by
 obtain rfl:n=l.length:=by have:=h.1;rcases h.2 with ⟨e,h0⟩ | ⟨_,_,_,e,_⟩ <;> (injection e with e1 e2 e3;first | done | omega)
 have hR:=R_of_nums h
 obtain ⟨h1,h2,h3⟩:=Kd.R_reads' hR
 exact ⟨h1,h2,h3⟩
end Go.Proofs.Ytbajioiiaamokaa.Own
