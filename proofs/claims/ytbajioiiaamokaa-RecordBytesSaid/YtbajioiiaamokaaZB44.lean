/- CpB, pruned (slim.py). -/
import Derived.Test.YtbajioiiaamokaaZB43
namespace Go.Proofs.Ytbajioiiaamokaa.Own
open Go.RowKit Go.Proofs.Ytbajioiiaamokaa.Arr Go.Proofs.Ytbajioiiaamokaa.QB Go.Proofs.YtbajioiiaamokaaW.PrintWords Go.Proofs.YtbajioiiaamokaaW.PrintLast Go.Proofs.YtbajioiiaamokaaW.PrintMore
set_option linter.unusedVariables false
set_option linter.unusedSimpArgs false
attribute [-go_sem] Instr.build
section
variable {P:Program} {ops:Array Oper} {rest:List Oper} {o:Oper} {a:Act} {w:World} {Q:Exit→Act→World→Prop}
theorem wpList_load_mid_on (hw:Region.wanted o (yielded ops a.tmps)=true) (ty:TypeId) (x:Operand) (ho:o.op=.load ty x)
  (b k:Nat) (hx:a.eval x=.pointer (some ⟨b,k,none⟩)) (cs:List Value) (d:TypeDesc) (hc:w.rangeAt b k cs)
  (hu:P.underlying ty=some d) (hd:d.isRow=true) (hi:(P.info? ty).map (·.size)=some cs.length)
  (h:wpList P ops Q rest (a.put o.dst (.agg cs.toArray)) w):wpList P ops Q (o :: rest) a w:=
 wpList_on hw fun _ hK=>wp_load_mid ty x ho b k hx cs d hc hu hd hi (hK _ _ h)
end
theorem info3c:(Try.prog.info? 3).map (fun i=>(i.zero,i.size,i.bytes))=some (some (.int .i64 0),1,8):=by kernel_rfl
def szOne (x:SlT):List Int:=if x.used=true then [x.size] else []
def szL (r:RcT) (k:Nat):List Int:=(List.range k).flatMap (fun j=>szOne (r.s j))
theorem szL_succ (r:RcT) (k:Nat):szL r (k+1)=szL r k++szOne (r.s k):=by simp[szL,List.range_succ]
theorem szL_len (r:RcT) (k:Nat):(szL r k).length≤k:=by
 induction k with
 |zero=>simp[szL]
 |succ k ih=>rw[szL_succ,List.length_append];unfold szOne;split <;> simp <;> omega
def SzRes (w:World) (L:List Int) (e:Ending) (w':World):Prop:=
 ∃ A c,e=.returned (.slice A L.length c)∧w'.ownsRow w.heap.size 3 1 (.slice A L.length c) L.length (nums .i64 L)∧Below w.heap.size w w'
set_option maxHeartbeats 8000000 in
set_option maxRecDepth 100000 in
theorem recSizes_any (r:RcT) (A:Nat→Option Addr) (c:Nat→Nat) (w:World) :
  Calls Try.prog 18 #[.agg (rcl r A c).toArray] w (SzRes w (szL r 4)):=by
 obtain ⟨hzS,-⟩:=zero_of_info (P:=Try.prog) infoSl
 obtain ⟨CA,hCA⟩:∃ CA,CA=(rcl r A c).toArray:=⟨_,rfl⟩
 obtain ⟨ZS,hZS⟩:∃ Z:Array Value,Z=zSl:=⟨_,rfl⟩
 rw[← hZS] at hzS
 obtain ⟨W1,hW1⟩:∃ W1,W1=w.alloc (.cells CA 28 (0,0)):=⟨_,rfl⟩
 have ha:=Lib.hid (show W1.heap[w.heap.size]?=some (.cells (rcl r A c).toArray 28 (0,0)) by rw[hW1,← hCA];exact heap_alloc_last _ _)
 have b1:=Lib.hid (show Below w.heap.size w W1 by rw[hW1];exact (Below.refl _ _).alloc (Nat.le_refl _) _)
 obtain ⟨Ls,hLs⟩:∃ Ls,Ls=rcs r.s A c:=⟨_,rfl⟩
 have hrg:=Lib.hid (show W1.rangeAt w.heap.size 5 Ls by rw[hLs];exact rc_slots ha.out)
 have hszL:=Lib.hid (show (Try.prog.info? 26).map (·.size)=some Ls.length by rw[hLs];exact szS4)
 have hix:=Lib.hid (fun (k:Nat) (hk:k<4) (W:World)=>show (Instr.index 26 (.agg Ls.toArray) (.int .i64 (k:Int))).run Try.prog W=.ok (.agg (slcl (r.s k) (A (k+2)) (c (k+2))).toArray) W from by
  rw[hLs,run_index_row (P:=Try.prog) 26 25 4 5 _ k Try.underlying26 szSl _ Try.underlying25 rfl hk W,rcs_extract r.s A c k hk])
 rw[← hCA]
 have hZS':=Lib.hid hZS
 have info3:=info3c
 clear hCA hLs hZS ha
 go_enter Try.func18,Try.ntmps18
 go_upto_region 1 with fail
 rw[← hW1]
 clear hW1
 go_wp2_with (with_reducible refine wpList_load_mid rfl 26 _ rfl w.heap.size 5 rfl Ls _ hrg.out Try.underlying26 rfl hszL.out ?_)
 go_loopw [3,5,8] (fun v _ i wr=>∃ k:Nat,k≤4∧i=.int .i64 k∧wr.ownsRow w.heap.size 3 1 v (szL r k).length (nums .i64 (szL r k))∧Below w.heap.size w wr) (fun _ _ i _=>4 - (intOf i).toNat)
 case atStart=>exact ⟨0,by omega,rfl,World.ownsRow_nil _ _ _ _,b1.out⟩
 case round=>
  obtain ⟨k,hk,rfl,hown,hb⟩:=hrel
  obtain ⟨Av,cv,rfl⟩:=own_slice hown
  have hown':=Lib.hid hown
  have hb':=Lib.hid hb
  clear hown hb hrg b1
  by_cases hlt:k<4
  ·have q1:(k:Int)<4:=by omega
   have q2:(0:Int)≤(k:Int):=by omega
   have kw:IntKind.i64.wrap ((k:Int)+1)=(k:Int)+1:=by rw[IntKind.wrap_i64];omega
   have hk1:=Lib.hid hlt
   have hx:=hix.out k hlt wr
   obtain ⟨X,hX⟩:∃ X,X=r.s k:=⟨_,rfl⟩
   obtain ⟨CX,hCX⟩:∃ CX,CX=(slcl X (A (k+2)) (c (k+2))).toArray:=⟨_,rfl⟩
   rw[← hX,← hCX] at hx
   have hs1:=Lib.hid (show (Try.prog.info? 25).map (·.size)=some CX.size by rw[hCX];exact szSl)
   have ho1:=Lib.hid (show CX.all (·.oneCell')=true by rw[hCX];exact slcl_one _ _ _)
   have hz1:=Lib.hid (show ZS.size=CX.size by rw[hCX,hZS'.out];rfl)
   have hcell:=Lib.hid (fun (W:World) (g:Nat) (h:W.heap[g]?=some (.cells CX 25 (0,0)))=>sl_cells (x:=X) (A:=A (k+2)) (c:=c (k+2)) (by rw[hCX] at h;exact h))
   have hln:=Lib.hid (szL_len r k)
   obtain ⟨D,hD⟩:∃ D,D=szL r k:=⟨_,rfl⟩
   have hsucc:=Lib.hid (show szL r (k+1)=D++szOne X by rw[hD,hX,szL_succ])
   rw[← hD] at hown' hln ⊢
   obtain ⟨n,hn⟩:∃ n,n=D.length:=⟨_,rfl⟩
   have hn':=Lib.hid hn
   rw[← hn] at hown' hln ⊢
   clear hCX hX hlt hk hD hn
   obtain ⟨u,hu⟩:∃ u,u=X.used:=⟨_,rfl⟩
   obtain ⟨sz,hsz⟩:∃ u,u=X.size:=⟨_,rfl⟩
   rw[← hu,← hsz] at hcell
   have hone:=Lib.hid (show szOne X=if u=true then [sz] else [] by rw[hu,hsz];rfl)
   clear hu hsz
   cases u with
   |false=>
    go_wp2_with (first
     |(with_reducible refine wpList_store_row rfl 25 _ _ rfl wr.heap.size CX rfl rfl 25 ZS (heap_alloc_last _ _) hs1.out hz1.out ho1.out ?_;have b12:=Lib.hid (below_setRow ((Below.refl wr.heap.size wr).alloc (Nat.le_refl _) (.cells ZS 25 (0,0))) (Nat.le_refl _) CX);have hk7:=Lib.hid (setRow_heap (wr.alloc (.cells ZS 25 (0,0))) wr.heap.size ZS CX 25 (0,0) (heap_alloc_last _ _));generalize (wr.alloc (.cells ZS 25 (0,0))).setRow wr.heap.size CX=w2 at *;have b2:=Lib.hid (below_step hb'.out b12.out);have o2:=Lib.hid (own_move hown'.out (fun k hk=>b12.out.block k (hown'.out.lt k hk).2));have d0:=(hcell.out w2 _ hk7.out).1))
    refine ⟨⟨k+1,hk1.out,by push_cast;rfl,?_,b2.out⟩,by have:=hk1.out;simp only[intOf];omega⟩
    rw[hsucc.out,hone.out,if_neg (by decide),List.append_nil,← hn'.out]
    exact o2.out
   |true=>
    go_wp2_with (first
     |(with_reducible refine wpList_store_row rfl 25 _ _ rfl wr.heap.size CX rfl rfl 25 ZS (heap_alloc_last _ _) hs1.out hz1.out ho1.out ?_;have b12:=Lib.hid (below_setRow ((Below.refl wr.heap.size wr).alloc (Nat.le_refl _) (.cells ZS 25 (0,0))) (Nat.le_refl _) CX);have hk7:=Lib.hid (setRow_heap (wr.alloc (.cells ZS 25 (0,0))) wr.heap.size ZS CX 25 (0,0) (heap_alloc_last _ _));generalize (wr.alloc (.cells ZS 25 (0,0))).setRow wr.heap.size CX=w2 at *;have b2:=Lib.hid (below_step hb'.out b12.out);have o2:=Lib.hid (own_move hown'.out (fun k hk=>b12.out.block k (hown'.out.lt k hk).2));obtain ⟨d0,d1,-,-,-⟩:=hcell.out w2 _ hk7.out)
     |(refine print_append_cells w.heap.size rfl (.tmp 13) (.tmp 16) 42 3 (.int .i64 0) 1 8 rfl Try.underlying42 info3 rfl (by decide) (by decide) (.slice Av n cv) n (nums .i64 D) [.int .i64 sz] rfl rfl rfl (by simp[Value.oneCell']) o2.out b2.out b2.out.size (by have:=hln.out;have:=hk1.out;omega) ?_;intro v1 w3 h1 h2 h3 h4;have o3:=Lib.hid h1;have b3:=Lib.hid h2;clear h1 h2 h3 h4))
    refine ⟨⟨k+1,hk1.out,by push_cast;rfl,?_,b3.out⟩,by have:=hk1.out;simp only[intOf];omega⟩
    rw[hsucc.out,hone.out,if_pos rfl,nums_append,List.length_append,← hn'.out]
    exact o3.out
  obtain rfl:k=4:=by omega
  have hown1:=hown'.out
  obtain ⟨n,hn⟩:∃ n,n=(szL r 4).length:=⟨_,rfl⟩
  rw[← hn] at hown1 ⊢
  have hn':=Lib.hid hn
  have hown2:=Lib.hid hown1
  clear hn hown1 hown' hlt hk
  go_wp2_with fail
  go_ret
  exact ⟨Av,cv,by rw[← hn'.out];rfl,by rw[← hn'.out];exact hown2.out,hb'.out⟩
set_option maxHeartbeats 8000000 in
set_option maxRecDepth 100000 in
theorem refRight18_any (r:RcT) (A:Nat→Option Addr) (c:Nat→Nat) (w:World) (h:RcV w r A c) :
  Calls Try.prog 14 #[.agg (rcl r A c).toArray] w fun e w'=>e=.returned (.bool (rcRight r))∧Below w.heap.size w w':=by
 obtain ⟨CA,hCA⟩:∃ CA,CA=(rcl r A c).toArray:=⟨_,rfl⟩
 obtain ⟨W1,hW1⟩:∃ W1,W1=w.alloc (.cells CA 39 (0,0)):=⟨_,rfl⟩
 have ha:=Lib.hid (show W1.heap[w.heap.size]?=some (.cells (rcl r A c).toArray 39 (0,0)) by rw[hW1,← hCA];exact heap_alloc_last _ _)
 have b1:=Lib.hid (show Below w.heap.size w W1 by rw[hW1];exact (Below.refl _ _).alloc (Nat.le_refl _) _)
 have hri:=Lib.hid (fun (W:World) (k:Nat) (hk:k<4) (hW:Below w.heap.size w W)=>nepentheref17_Right.calls (r.s k).used (r.s k).size (r.s k).epoch (r.s k).count (A (k+2)) (c (k+2)) (r.s k).wrap (slRight (r.s k)) W (Kd.C_below (h (k+2) (by omega)).1 hW) (h (k+2) (by omega)).2 (by rw[refSlRight_eq]))
 have hsl:=Lib.hid (fun (W:World) (k:Nat) (hk:k<4) (h:W.heap[w.heap.size]?=some (.cells (rcl r A c).toArray 39 (0,0)))=>rc_slot h k hk)
 obtain ⟨p0,p1,p2,p3,p4⟩:=rc_head ha.out
 obtain ⟨F0,hF0⟩:∃ b:Bool,b=(decide (r.salt.length=16) && decide (r.check.length=32)):=⟨_,rfl⟩
 obtain ⟨n1,hn1⟩:∃ n,n=r.salt.length:=⟨_,rfl⟩
 obtain ⟨n2,hn2⟩:∃ n,n=r.check.length:=⟨_,rfl⟩
 rw[← hn1] at p2
 rw[← hn2] at p4
 rw[← hn1,← hn2] at hF0
 have hfin:=Lib.hid (show rcRight r=(slotsR r 4 && F0) by unfold rcRight;rw[hF0,hn1,hn2])
 rw[← hCA]
 clear h hCA hn1 hn2
 go_enter Try.func14,Try.ntmps14
 go_upto_region 1 with fail
 rw[← hW1]
 clear hW1
 have hst:F0=true∨F0=false:=by cases F0 <;> simp
 go_cut [3] (fun v w'=>v=.bool F0∧w'=W1)
 case first=>
  by_cases h16:n1=16
  ·subst h16
   by_cases h32:n2=32
   ·subst h32
    go_wp2_with fail
    go_meet
    exact ⟨by rw[hF0];rfl,rfl⟩
   have h32':((n2:Int)=32)=False:=by simp;omega
   have h32'':((n2:Int) == 32)=false:=by simp;omega
   have h32d:decide (n2=32)=false:=by simp[h32]
   rw[h32d] at hF0
   go_wp2_with fail
   go_meet
   exact ⟨by rw[hF0];rfl,rfl⟩
  have h16':((n1:Int)=16)=False:=by simp;omega
  have h16'':((n1:Int) == 16)=false:=by simp;omega
  have h16d:decide (n1=16)=false:=by simp[h16]
  rw[h16d] at hF0
  go_wp2_with fail
  go_meet
  exact ⟨by rw[hF0];rfl,rfl⟩
 case rest=>
  obtain ⟨rfl,rfl⟩:=hcut
  clear p0 p1 p2 p3 p4 hF0
  go_wp2_with fail
  go_loopw [3,4] (fun ok v wr=>∃ k:Nat,k≤4∧v=.int .i64 k∧ok=.bool (slotsR r k && F0)∧wr.heap[w.heap.size]?=some (.cells (rcl r A c).toArray 39 (0,0))∧Below w.heap.size w wr) (fun _ v _=>4 - (intOf v).toNat)
  case atStart=>exact ⟨0,by omega,rfl,rfl,ha.out,b1.out⟩
  case round=>
   obtain ⟨k,hk,rfl,rfl,hg,hb⟩:=hrel
   have hg':=Lib.hid hg
   have hb':=Lib.hid hb
   clear hg hb ha b1
   obtain ⟨B,hB⟩:∃ B:Bool,B=(slotsR r k && F0):=⟨_,rfl⟩
   rw[← hB]
   by_cases hlt:k<4
   ·have q1:(k:Int)<4:=by omega
    have q2:(0:Int)≤(k:Int):=by omega
    have kw:IntKind.i64.wrap ((k:Int)+1)=(k:Int)+1:=by rw[IntKind.wrap_i64];omega
    have hk1:=Lib.hid hlt
    have hr1:=Lib.hid (fun W hW=>hri.out W k hk1.out hW)
    have hrg:=Lib.hid (hsl.out _ k hlt hg'.out)
    have hsucc:=Lib.hid (show (slotsR r (k+1) && F0)=(B && slRight (r.s k)) by rw[hB,slotsR_succ];cases slotsR r k <;> cases F0 <;> simp)
    obtain ⟨X,hX⟩:∃ X,X=slcl (r.s k) (A (k+2)) (c (k+2)):=⟨_,rfl⟩
    have hr2:=Lib.hid (fun (W:World) (hW:Below w.heap.size w W)=>show Calls Try.prog 46 #[.agg X.toArray] W (fun e w'=>e=.returned (.bool (slRight (r.s k)))∧Below W.heap.size W w') from by rw[hX];exact hr1.out W hW)
    rw[← hX] at hrg
    have hszX:=Lib.hid (show (Try.prog.info? 36).map (·.size)=some X.length by rw[hX];exact szSr)
    obtain ⟨V,hV⟩:∃ V,V=slRight (r.s k):=⟨_,rfl⟩
    rw[← hV] at hsucc hr2
    clear hX hB hlt hk hr1 hV
    cases B with
    |false=>
     go_wp2_with fail
     exact ⟨⟨k+1,hk1.out,by push_cast;rfl,by rw[hsucc.out];rfl,hg'.out,hb'.out⟩,by have:=hk1.out;simp only[intOf];omega⟩
    |true=>
     go_wp2_with (first
      |((with_reducible go_at_call 46);refine (hr2.out _ hb'.out).mono ?_;rintro e w4 ⟨rfl,hbb⟩;have b4:=Lib.hid (below_step hb'.out hbb);have g4:=Lib.hid (heap_below hg'.out hbb);clear hbb)
      |((with_reducible refine wpList_load_mid_on ?_ 36 _ rfl w.heap.size (5+k*5) rfl X _ hrg.out Try.underlying36 rfl hszX.out ?_);exact rfl))
     exact ⟨⟨k+1,hk1.out,by push_cast;rfl,by rw[hsucc.out,Bool.true_and],g4.out,b4.out⟩,by have:=hk1.out;simp only[intOf];omega⟩
   obtain rfl:k=4:=by omega
   have hBf:=Lib.hid (show rcRight r=B by rw[hfin.out,hB])
   clear hB hlt hk
   go_wp2_with fail
   go_ret
   exact ⟨by rw[hBf.out];rfl,hb'.out⟩
end Go.Proofs.Ytbajioiiaamokaa.Own
