/- RbP, pruned (slim.py). -/
import Derived.Test.YtbajioiiaamokaaZB42
import Derived.Test.YtbajioiiaamokaaZB45
import Derived.OneCell
namespace Go.Proofs.Ytbajioiiaamokaa.Own
open Go.RowKit Go.Proofs.Ytbajioiiaamokaa.Arr Go.Proofs.Ytbajioiiaamokaa.QB Go.Proofs.YtbajioiiaamokaaW.PrintWords Go.Proofs.YtbajioiiaamokaaW.PrintLast Go.Proofs.YtbajioiiaamokaaW.PrintMore
set_option linter.unusedVariables false
set_option linter.unusedSimpArgs false
attribute [-go_sem] Instr.build
theorem sameInts_l (a:List Int) (hl:a.length≤281474976710656) (d:Nat):∀ i,i+d=a.length→∀ k,nepentheref01_SameInts.l0 (k+d+1) a a (i:Int)=some true:=by
 induction d with
 |zero=>
  intro i hi k
  rw[nepentheref01_SameInts.l0,if_neg (by omega)]
 |succ d ih=>
  intro i hi k
  have:=ih (i+1) (by omega) k
  rw[show k+(d+1)+1=(k+d+1)+1 by omega,nepentheref01_SameInts.l0,if_pos (by omega),if_pos (by omega),if_pos (by omega),if_pos rfl,show wrap64 ((i:Int)+1)=((i+1:Nat):Int) by unfold wrap64;push_cast;omega]
  exact this
theorem sameInts_eq (a:List Int) (hl:a.length≤281474976710656) (k:Nat):nepentheref01_SameInts.f (k+a.length+1) a a=some true:=by
 unfold nepentheref01_SameInts.f
 rw[if_pos rfl]
 exact sameInts_l a hl a.length 0 (by omega) k
theorem Cint_of_own {w:World} {base n:Nat} {A:Option Addr} {c:Nat} {l:List Int} (h:w.ownsRow base 3 1 (.slice A n c) n (nums .i64 l)):n=l.length∧l.length≤c∧Kd.C (Kd.int .i64) w A l.length l:=by
 obtain rfl:n=l.length:=by have:=h.1;simp[nums] at this;omega
 have hR:=R_of_nums h
 obtain ⟨h1,h2,h3⟩:=Kd.R_reads' hR
 exact ⟨h1,h2,h3⟩
def Mut (w3 w4 w7 wr:World):Prop:=wr.heap.size=w7.heap.size∧(∀ j,w4.heap.size≤j→wr.heap[j]?=w7.heap[j]?)∧Below w3.heap.size w3 wr
theorem Mut.set {w3 w4 w7 wr:World} (h:Mut w3 w4 w7 wr) {p:Addr} (h3:w3.heap.size≤p.block) (h4:p.block<w4.heap.size) (v:Value):Mut w3 w4 w7 (wr.setCell p v):=
 ⟨by rw[← h.1];simp[World.setCell],fun j hj=>(Below.heap_setCell wr p v j (by omega)).trans (h.2.1 j hj),h.2.2.setCell h3 v⟩
theorem Mut.blk {w3 w4 w7 wr:World} (h:Mut w3 w4 w7 wr) {j:Nat} {o:Obj} (hj:w4.heap.size≤j) (hg:w7.heap[j]?=some o):wr.heap[j]?=some o:=(h.2.1 j hj).trans hg
section
variable {P:Program} {ops:Array Oper} {rest:List Oper} {op:Oper} {a:Act} {w:World} {Q:Exit→Act→World→Prop}
theorem exec_bin (w:World) (bo:BinOp) (ty ty2:TypeId) (x y:Operand) (ho:op.op=.binOp bo ty x y ty2) (vx vy v:Value) (hx:a.eval x=vx) (hy:a.eval y=vy)
  (hbo:bo=.neq) (hg:(eqGuard .neq ty x y vx vy).run P w=.ok () w) (hr:(binOp bo ty vx vy).run P w=.ok v w):(execOp a.eval op).run P w=.ok (.value v) w:=by
 subst hbo
 unfold execOp
 simp only[ho,hx,hy,Sem.run_bind,hg,hr,Result.andThen_ok,Sem.run_pure]
end
theorem recRead_own (r:RcT) (key:List Int) (h:rcRight r=true) (hf:recFit r) (hbt:∀ x ∈ recBytes r key,byt x) (A:Option Addr) (c:Nat) (hc:624≤c) (L:List Int) (hL:L=recBytes r key) (W:World) (hC:Kd.C (Kd.int .u8) W A 624 L) :
  Calls Try.prog 19 #[.slice A 624 c] W fun e w'=>∃ AX cX,e=.returned (.tuple #[.agg (rcl r AX cX).toArray,.int .i64 0])∧RcV w' r AX cX∧Below W.heap.size W w':=by
 obtain ⟨s,ho,h4⟩:=rcRead_bytes h hf key
 have hl:=recBytes_len h key
 rw[← hL] at ho hl hbt
 have hgo:=recRead_any A c L hl hc hbt W (by rw[hl];exact hC)
 rw[ho] at hgo
 refine hgo.mono ?_
 rintro e w' ⟨AX,cX,rfl,hO,hb⟩
 exact ⟨AX,cX,by rw[show (Option.some { r with s:=s }).getD rcZero={ r with s:=s } from rfl,rcl_congr h4];rfl,RcV_congr h4 hO.v,hb⟩
theorem recFit_of {r:RcT} (h:rcRight r=true) (h1:0≤r.gen∧r.gen<18446744073709551616) (h2:0≤r.epoch∧r.epoch<18446744073709551616) (h3:0≤r.bad∧r.bad<18446744073709551616) (h4:∀ k,k<4→(0≤(r.s k).epoch∧(r.s k).epoch<18446744073709551616)∧(0≤(r.s k).count∧(r.s k).count<18446744073709551616)):recFit r:=by
 refine ⟨h1,h2,h3,fun k hk=>?_⟩
 obtain ⟨⟨a,b⟩,c,d⟩:=h4 k hk
 have hs:=(rcRight_parts h).1 k hk
 unfold slRight at hs
 split at hs
 ·obtain ⟨k1,k2,k3⟩:=of_decide_eq_true hs
  exact ⟨by omega,by omega,a,b,c,d,by omega⟩
 obtain ⟨k1,k2,k3,k4⟩:=of_decide_eq_true hs
 exact ⟨by omega,by omega,a,b,c,d,by rw[k4];exact Nat.zero_le _⟩
end Go.Proofs.Ytbajioiiaamokaa.Own
