/- HtD, pruned (slim.py). -/
import Derived.Test.YtiogdomjmjiahaaZH20
namespace Go.Proofs.Ytiogdomjmjiahaa.Own
open Go.RowKit Go.Proofs.Ytiogdomjmjiahaa.Arr Go.Proofs.Ytiogdomjmjiahaa.QA Go.Proofs.Ytiogdomjmjiahaa.QB Go.Proofs.YtiogdomjmjiahaaW.PrintWords Go.Proofs.YtiogdomjmjiahaaW.PrintLast Go.Proofs.YtiogdomjmjiahaaW.PrintMore
set_option linter.unusedVariables false
set_option linter.unusedSimpArgs false
attribute [-go_sem] Instr.build
def updF {α:Type} (f:Nat→α) (k:Nat) (x:α):Nat→α:=fun j=>if j=k then x else f j
theorem updF_same {α:Type} (f:Nat→α) (k:Nat) (x:α):updF f k x k=x:=by simp[updF]
theorem updF_other {α:Type} (f:Nat→α) (k j:Nat) (x:α) (h:j≠k):updF f k x j=f j:=by simp[updF,h]
abbrev repl (A:Option Addr) (n c:Nat) (f:Nat→Int) (b:Nat→Bool) (p:Nat→Nat→Int) (e u:Int) (ro:Bool):List Value:=
 [.slice A n c,.int .i64 (f 1),.int .i64 (f 2),.int .i64 (f 3),.int .i64 (f 4),.int .i64 (f 5),.int .i64 (f 6),.int .i64 (f 7),.int .i64 (f 8)]++(spaces b p ++ [.int .u64 e,.int .u64 u,.bool ro])
theorem repl_upd (A:Option Addr) (n c:Nat) (f:Nat→Int) (b b':Nat→Bool) (p p':Nat→Nat→Int) (e u:Int) (ro:Bool) (k:Nat) (hk:k<4) :
  (repl A n c f b p e u ro).take (9+k*6)++spacl b' p' k++(repl A n c f b p e u ro).drop (9+k*6+6)=repl A n c f (updF b k (b' k)) (updF p k (p' k)) e u ro:=
 four4 (P:=fun k=>(repl A n c f b p e u ro).take (9+k*6)++spacl b' p' k++(repl A n c f b p e u ro).drop (9+k*6+6)=repl A n c f (updF b k (b' k)) (updF p k (p' k)) e u ro) rfl rfl rfl rfl k hk
theorem repc_one (A:Option Addr) (n c:Nat) (f:Nat→Int) (b:Nat→Bool) (p:Nat→Nat→Int) (e u:Int) (ro:Bool):(repc A n c f b p e u ro).all (·.oneCell')=true:=by simp[Value.oneCell']
theorem szRp:(Try.prog.info? 47).map (·.size)=some 36:=by kernel_rfl
theorem szRq:(Try.prog.info? 51).map (·.size)=some 36:=by kernel_rfl
theorem builtRq (A:Option Addr) (n c:Nat) (f1 f2 f3 f4 f5 f6 f7 f8 e u:Int) (ro:Bool):Try.prog.built 51 (#[(0,.slice A n c),(1,.int .i64 f1),(2,.int .i64 f2),(3,.int .i64 f3),(4,.int .i64 f4),(5,.int .i64 f5),(6,.int .i64 f6),(7,.int .i64 f7),(8,.int .i64 f8),(10,.int .u64 e),(11,.int .u64 u),(12,.bool ro)]:Array (Nat × Value)).toList =
  some (([.slice A n c,.int .i64 f1,.int .i64 f2,.int .i64 f3,.int .i64 f4,.int .i64 f5,.int .i64 f6,.int .i64 f7,.int .i64 f8]:List Value)++(spaces (fun _=>false) (fun _ _=>0)++([.int .u64 e,.int .u64 u,.bool ro]:List Value))).toArray:=by kernel_rfl
theorem builtSq (b:Bool) (p1 p2 p3 p4 p5:Int):Try.prog.built 48 (#[(0,.bool b),(1,.int .i64 p1),(2,.int .i64 p2),(3,.int .i64 p3),(4,.int .i64 p4),(5,.int .i64 p5)]:Array (Nat × Value)).toList=some #[.bool b,.int .i64 p1,.int .i64 p2,.int .i64 p3,.int .i64 p4,.int .i64 p5]:=by kernel_rfl
def OfRep (w:World) (A:Option Addr) (n c:Nat) (f:Nat→Int) (b:Nat→Bool) (p:Nat→Nat→Int) (e u:Int) (ro:Bool) (g k:Nat) (w':World):Prop:=
 ∃ b' p',w'.heap[g]?=some (.cells (repl A n c f b' p' e u ro).toArray 51 (0,0))∧(∀ j,j<k→spacl b' p' j=spacl b p j)∧w'.heap[w.heap.size]?=some (.cells (repc A n c f b p e u ro) 47 (0,0))∧w'.heap[w.heap.size+1]?=some (.cells (repc none 0 0 (fun _=>0) (fun _=>false) (fun _ _=>0) 0 0 false) 51 (0,0))∧Below w.heap.size w w'
set_option maxHeartbeats 8000000 in
set_option maxRecDepth 100000 in
theorem of32_any (A:Option Addr) (n c:Nat) (f:Nat→Int) (b:Nat→Bool) (p:Nat→Nat→Int) (e u:Int) (ro:Bool) (w:World) :
  Calls Try.prog 25 #[.agg (repc A n c f b p e u ro)] w fun e_ w'=>e_=.returned (.agg (repc A n c f b p e u ro))∧Below w.heap.size w w':=by
 obtain ⟨hz,-⟩:=zero_of_info (P:=Try.prog) info51
 obtain ⟨hzS,-⟩:=zero_of_info (P:=Try.prog) infoSp
 obtain ⟨CA,hCA⟩:∃ CA,CA=repc A n c f b p e u ro:=⟨_,rfl⟩
 obtain ⟨Z,hZ⟩:∃ Z:Array Value,Z=repc none 0 0 (fun _=>0) (fun _=>false) (fun _ _=>0) 0 0 false:=⟨_,rfl⟩
 obtain ⟨ZS,hZS⟩:∃ Z:Array Value,Z=zSp:=⟨_,rfl⟩
 obtain ⟨G,hG⟩:∃ G:Array Value,G=(repl A n c f (fun _=>false) (fun _ _=>0) e u ro).toArray:=⟨_,rfl⟩
 have hGb:∀ (W:World),(Instr.build 51 #[(0,.slice A n c),(1,.int .i64 (f 1)),(2,.int .i64 (f 2)),(3,.int .i64 (f 3)),(4,.int .i64 (f 4)),(5,.int .i64 (f 5)),(6,.int .i64 (f 6)),(7,.int .i64 (f 7)),(8,.int .i64 (f 8)),(10,.int .u64 e),(11,.int .u64 u),(12,.bool ro)]).run Try.prog W=.ok (.agg G) W:=fun W=>by
  rw[hG]
  exact run_build W _ _ _ (builtRq A n c (f 1) (f 2) (f 3) (f 4) (f 5) (f 6) (f 7) (f 8) e u ro)
 have hGs:=Lib.hid (show (Try.prog.info? 51).map (·.size)=some G.size by rw[hG];exact szRq)
 have hGo:=Lib.hid (show G.all (·.oneCell')=true by rw[hG];exact repc_one A n c f (fun _=>false) (fun _ _=>0) e u ro)
 have hGZ:=Lib.hid (show Z.size=G.size by rw[hG,hZ];rfl)
 rw[← hZ] at hz
 rw[← hZS] at hzS
 obtain ⟨W1,hW1⟩:∃ W1,W1=(w.alloc (.cells CA 47 (0,0))).alloc (.cells Z 51 (0,0)):=⟨_,rfl⟩
 have ha:=Lib.hid (show W1.heap[w.heap.size]?=some (.cells (repc A n c f b p e u ro) 47 (0,0)) by rw[hW1,heap_skip _ _ _ (by simp),← hCA];exact heap_alloc_last _ _)
 have hbk:=Lib.hid (show W1.heap[w.heap.size+1]?=some (.cells Z 51 (0,0)) by rw[hW1];have:=heap_alloc_last (w.alloc (.cells CA 47 (0,0))) (.cells Z 51 (0,0));simpa using this)
 have b1:=Lib.hid (show Below w.heap.size w W1 by rw[hW1];exact below_alloc ((Below.refl _ _).alloc (Nat.le_refl _) _) _)
 have hs1:=Lib.hid (show W1.heap.size=w.heap.size+2 by rw[hW1];simp)
 rw[← hCA]
 have hCA':=Lib.hid hCA
 have hZ':=Lib.hid hZ
 have hZS':=Lib.hid hZS
 have hG':=Lib.hid hG
 obtain ⟨p0,p1,p2,p3,p4,p5,p6,p7,p8,p9,p10,p11⟩:=rep_cells ha.out
 clear hCA hZ hZS hG
 go_enter Try.func25,Try.ntmps25
 go_upto_region 1 with fail
 rw[← hW1]
 clear hW1
 go_wp2_with (with_reducible refine wpList_store_row rfl 51 _ _ rfl W1.heap.size G rfl rfl 51 Z (heap_alloc_last _ _) hGs.out hGZ.out hGo.out ?_;have b12:=Lib.hid (below_setRow ((Below.refl W1.heap.size W1).alloc (Nat.le_refl _) (.cells Z 51 (0,0))) (Nat.le_refl _) G);have hg3:=Lib.hid (setRow_heap (W1.alloc (.cells Z 51 (0,0))) W1.heap.size Z G 51 (0,0) (heap_alloc_last _ _));generalize (W1.alloc (.cells Z 51 (0,0))).setRow W1.heap.size G=w2 at *)
 have hlt3:=Lib.hid (show w.heap.size+1<W1.heap.size by rw[hs1.out];omega)
 have hinit:=Lib.hid (show OfRep w A n c f b p e u ro W1.heap.size 0 w2 from ⟨fun _=>false,fun _ _=>0,by rw[hg3.out,hG'.out],fun j hj=>absurd hj (by omega),heap_below ha.out b12.out,by rw[← hZ'.out];exact heap_below hbk.out b12.out,below_step b1.out b12.out⟩)
 obtain ⟨g3,hg3e⟩:∃ g3,g3=W1.heap.size:=⟨_,rfl⟩
 rw[← hg3e] at hinit hlt3 ⊢
 clear p0 p1 p2 p3 p4 p5 p6 p7 p8 p9 p10 p11 ha hbk b1 hs1 b12 hg3 hg3e hGb
 go_loopw [4,5] (fun v _ wr=>∃ k:Nat,k≤4∧v=.int .i64 k∧OfRep w A n c f b p e u ro g3 k wr) (fun v _ _=>4 - (intOf v).toNat)
 case atStart=>exact ⟨0,by omega,rfl,hinit.out⟩
 case round=>
  obtain ⟨k,hk,rfl,b',p',hg,hsl,hga,hgb,hb⟩:=hrel
  have hg':=Lib.hid hg
  have hsl':=Lib.hid hsl
  have hga':=Lib.hid hga
  have hgb':=Lib.hid hgb
  have hb':=Lib.hid hb
  clear hg hsl hga hgb hb hinit
  by_cases hlt:k<4
  ·have q1:(k:Int)<4:=by omega
   have q2:(0:Int)≤(k:Int):=by omega
   have kw:IntKind.i64.wrap ((k:Int)+1)=(k:Int)+1:=by rw[IntKind.wrap_i64];omega
   have hk1:=Lib.hid hlt
   have hrg:=Lib.hid (show wr.rangeAt w.heap.size (9+k*6) (spacl b p k) from space_range (rep_spaces hga'.out) k hlt)
   obtain ⟨Ls,hLs⟩:∃ Ls,Ls=spacl b p k:=⟨_,rfl⟩
   rw[← hLs] at hrg
   have hszL:=Lib.hid (show (Try.prog.info? 43).map (·.size)=some Ls.length by rw[hLs];exact szSp)
   have hszA:=Lib.hid (show (Try.prog.info? 43).map (·.size)=some Ls.toArray.size by rw[hLs];exact szSp)
   have honeL:=Lib.hid (show Ls.toArray.all (·.oneCell')=true by rw[hLs];exact spacl_one _ _ _)
   have hzL:=Lib.hid (show ZS.size=Ls.toArray.size by rw[hLs,hZS'.out];rfl)
   have hcell:=Lib.hid (fun (W:World) (g:Nat) (h:W.heap[g]?=some (.cells Ls.toArray 43 (0,0)))=>spacl_cells (b:=b) (p:=p) (j:=k) (by rw[hLs] at h;exact h))
   obtain ⟨CX,hCX⟩:∃ CX,CX=(spacl b p k).toArray:=⟨_,rfl⟩
   have hCb:∀ (W:World),(Instr.build 48 #[(0,.bool (b k)),(1,.int .i64 (p k 1)),(2,.int .i64 (p k 2)),(3,.int .i64 (p k 3)),(4,.int .i64 (p k 4)),(5,.int .i64 (p k 5))]).run Try.prog W=.ok (.agg CX) W:=fun W=>by rw[hCX];exact run_build W _ _ _ (builtSq (b k) (p k 1) (p k 2) (p k 3) (p k 4) (p k 5))
   have hszC:=Lib.hid (show (Try.prog.info? 48).map (·.size)=some CX.size by rw[hCX];exact szSq)
   have honeC:=Lib.hid (show CX.all (·.oneCell')=true by rw[hCX];exact spacl_one _ _ _)
   have hX5:=Lib.hid (show CX.size=6 by rw[hCX];rfl)
   have hCX':=Lib.hid hCX
   clear hLs hCX hlt hk
   go_wp2_with (first
    |(with_reducible refine wpList_load_mid rfl 43 _ rfl w.heap.size (9+k*6) rfl Ls _ hrg.out Try.underlying43 rfl hszL.out ?_)
    |(with_reducible refine wpList_store_row rfl 43 _ _ rfl wr.heap.size Ls.toArray rfl rfl 43 ZS (heap_alloc_last _ _) hszA.out hzL.out honeL.out ?_;have b12:=Lib.hid (below_setRow ((Below.refl wr.heap.size wr).alloc (Nat.le_refl _) (.cells ZS 43 (0,0))) (Nat.le_refl _) Ls.toArray);have hk5:=Lib.hid (setRow_heap (wr.alloc (.cells ZS 43 (0,0))) wr.heap.size ZS Ls.toArray 43 (0,0) (heap_alloc_last _ _));generalize (wr.alloc (.cells ZS 43 (0,0))).setRow wr.heap.size Ls.toArray=w3 at *;obtain ⟨d0,d1,d2,d3,d4,d5⟩:=hcell.out w3 _ hk5.out;have g3':=Lib.hid (heap_below hg'.out b12.out);have hth:=Lib.hid (show w3.there g3 (9+k*6) CX.size by rw[hX5.out];exact there_of_block g3'.out (9+k*6) 6 (by simp;have:=hk1.out;omega)))
    |(with_reducible refine wpList_store_mid rfl 48 _ _ rfl g3 (9+k*6) CX rfl rfl hth.out hszC.out honeC.out ?_))
   have hg3:=heap_setCells_mid (spacl b p k) (9+k*6) w3 _ g3'.out (by simp;have:=hk1.out;omega)
   rw[show (repl A n c f b' p' e u ro).toArray.toList=repl A n c f b' p' e u ro from rfl,show (spacl b p k).length=6 from rfl,repl_upd A n c f b' b p' p e u ro k hk1.out] at hg3
   have hbt:=but_setCells (g:=g3) (w:=w3) (9+k*6) (spacl b p k)
   have ga3:=heap_below hga'.out b12.out
   have gb3:=heap_below hgb'.out b12.out
   rw[show CX.toList=spacl b p k from by rw[hCX'.out]]
   exact ⟨⟨k+1,hk1.out,by push_cast;rfl,updF b' k (b k),updF p' k (p k),hg3,fun j hj=>by
    by_cases h:j=k
    ·subst h;simp only[spacl,updF_same]
    ·simp only[spacl,updF_other _ _ _ _ h];exact hsl'.out j (by omega),
    (hbt.2 _ (lt_of_heap ga3) (by have:=hlt3.out;omega)).trans ga3,(hbt.2 _ (lt_of_heap gb3) (Nat.ne_of_lt hlt3.out)).trans gb3,below_setCells (by have:=hlt3.out;omega) (spacl b p k) (9+k*6) w3 (below_step hb'.out b12.out)⟩,by have:=hk1.out;simp only[intOf];omega⟩
  obtain rfl:k=4:=by omega
  have hLl:=Lib.hid (show repl A n c f b' p' e u ro=repl A n c f b p e u ro by
   have e0:=hsl'.out 0 (by omega)
   have e1:=hsl'.out 1 (by omega)
   have e2:=hsl'.out 2 (by omega)
   have e3:=hsl'.out 3 (by omega)
   show _++((spacl b' p' 0++(spacl b' p' 1++(spacl b' p' 2++spacl b' p' 3)))++_)=_
   rw[e0,e1,e2,e3])
  obtain ⟨CR,hCR⟩:∃ CR,CR=(repl A n c f b' p' e u ro).toArray:=⟨_,rfl⟩
  have g1:=Lib.hid hg'.out
  rw[← hCR] at g1
  have gz:=Lib.hid (show wr.heap[w.heap.size+1]?=some (.cells Z 51 (0,0)) by rw[hZ'.out];exact hgb'.out)
  have hCRs:=Lib.hid (show (Try.prog.info? 51).map (·.size)=some CR.size by rw[hCR];exact szRq)
  have hCRo:=Lib.hid (show CR.all (·.oneCell')=true by rw[hCR];exact repc_one A n c f b' p' e u ro)
  have hCRz:=Lib.hid (show Z.size=CR.size by rw[hCR,hZ'.out];rfl)
  have hCR':=Lib.hid hCR
  clear hCR hlt hk
  go_wp2_with (first
   |(with_reducible refine wpList_load_row rfl 51 _ rfl g3 rfl 51 CR (0,0) _ g1.out Try.underlying51 rfl hCRs.out ?_)
   |(with_reducible refine wpList_store_row rfl 51 _ _ rfl (w.heap.size+1) CR rfl rfl 51 Z gz.out hCRs.out hCRz.out hCRo.out ?_))
  have hq:=setRow_heap wr (w.heap.size+1) Z CR 51 (0,0) gz.out
  refine bodyPost_ret (v:=.agg CR) (results_cell_row (p:=2) (ty:=51) rfl _ _ (w.heap.size+1) 51 _ (0,0) _ (by rfl) hq Try.underlying51 rfl hCRs.out) rfl ?_
  exact ⟨by rw[hCR'.out,hLl.out,hCA'.out];rfl,below_setRow hb'.out (Nat.le_succ _) _⟩
end Go.Proofs.Ytiogdomjmjiahaa.Own
