/- SbB, pruned (slim.py). -/
import Derived.Test.YtbajioiiaamokaaZB34
namespace Go.Proofs.Ytbajioiiaamokaa.Own
open Go.RowKit Go.Proofs.Ytbajioiiaamokaa.Arr Go.Proofs.Ytbajioiiaamokaa.QB Go.Proofs.YtbajioiiaamokaaW.PrintWords Go.Proofs.YtbajioiiaamokaaW.PrintLast Go.Proofs.YtbajioiiaamokaaW.PrintMore
set_option linter.unusedVariables false
set_option linter.unusedSimpArgs false
attribute [-go_sem] Instr.build
theorem szS4:(Try.prog.info? 26).map (·.size)=some 20:=by kernel_rfl
def slotsR (r:RcT) (k:Nat):Bool:=(List.range k).all (fun j=>slRight (r.s j))
def rcRight (r:RcT):Bool:=slotsR r 4 && (decide (r.salt.length=16) && decide (r.check.length=32))
theorem slotsR_succ (r:RcT) (k:Nat):slotsR r (k+1)=(slotsR r k && slRight (r.s k)):=by simp[slotsR,List.range_succ]
theorem slotsR_no (r:RcT) (n k:Nat) (hk:k<n) (h:slRight (r.s k)=false):slotsR r n=false:=by
 unfold slotsR
 rw[List.all_eq_false]
 exact ⟨k,List.mem_range.2 hk,by rw[h];simp⟩
set_option maxHeartbeats 4000000 in
set_option maxRecDepth 100000 in
theorem recRight_any (r:RcT) (A:Nat→Option Addr) (c:Nat→Nat) (w:World) (h:RcV w r A c) :
  Calls Try.prog 13 #[.agg (rcl r A c).toArray] w fun e w'=>e=.returned (.bool (rcRight r))∧Below w.heap.size w w':=by
 obtain ⟨hzS,-⟩:=zero_of_info (P:=Try.prog) infoSl
 obtain ⟨ZS,hZS⟩:∃ Z:Array Value,Z=zSl:=⟨_,rfl⟩
 rw[← hZS] at hzS
 obtain ⟨CA,hCA⟩:∃ CA,CA=(rcl r A c).toArray:=⟨_,rfl⟩
 obtain ⟨W1,hW1⟩:∃ W1,W1=w.alloc (.cells CA 28 (0,0)):=⟨_,rfl⟩
 have ha:=Lib.hid (show W1.heap[w.heap.size]?=some (.cells (rcl r A c).toArray 28 (0,0)) by rw[hW1,← hCA];exact heap_alloc_last _ _)
 have b1:=Lib.hid (show Below w.heap.size w W1 by rw[hW1];exact (Below.refl _ _).alloc (Nat.le_refl _) _)
 have hri:=Lib.hid (fun (W:World) (k:Nat) (hk:k<4) (hW:Below w.heap.size w W)=>slot_Right.calls (r.s k).used (r.s k).size (r.s k).epoch (r.s k).count (A (k+2)) (c (k+2)) (r.s k).wrap (slRight (r.s k)) W (Kd.C_below (h (k+2) (by omega)).1 hW) (h (k+2) (by omega)).2 (by rw[slRight_eq]))
 obtain ⟨Ls,hLs⟩:∃ Ls,Ls=rcs r.s A c:=⟨_,rfl⟩
 have hrg:=Lib.hid (show W1.rangeAt w.heap.size 5 Ls by rw[hLs];exact rc_slots ha.out)
 have hszL:=Lib.hid (show (Try.prog.info? 26).map (·.size)=some Ls.length by rw[hLs];exact szS4)
 have hix:=Lib.hid (fun (k:Nat) (hk:k<4) (W:World)=>show (Instr.index 26 (.agg Ls.toArray) (.int .i64 (k:Int))).run Try.prog W=.ok (.agg (slcl (r.s k) (A (k+2)) (c (k+2))).toArray) W from by
  rw[hLs,run_index_row (P:=Try.prog) 26 25 4 5 _ k Try.underlying26 szSl _ Try.underlying25 rfl hk W,rcs_extract r.s A c k hk])
 rw[← hCA]
 have hZS':=Lib.hid hZS
 clear h hCA hLs hZS
 go_enter Try.func13,Try.ntmps13
 go_upto_region 1 with fail
 rw[← hW1]
 clear hW1
 go_wp2_with (with_reducible refine wpList_load_mid rfl 26 _ rfl w.heap.size 5 rfl Ls _ hrg.out Try.underlying26 rfl hszL.out ?_)
 go_loopw [4,7] (fun _ v wr=>∃ k:Nat,k≤4∧v=.int .i64 k∧slotsR r k=true∧wr.heap[w.heap.size]?=some (.cells (rcl r A c).toArray 28 (0,0))∧Below w.heap.size w wr) (fun _ v _=>4 - (intOf v).toNat)
 case atStart=>exact ⟨0,by omega,rfl,rfl,ha.out,b1.out⟩
 case round=>
  obtain ⟨k,hk,rfl,hsl,hg,hb⟩:=hrel
  have hg':=Lib.hid hg
  have hsl':=Lib.hid hsl
  have hb':=Lib.hid hb
  clear hg hsl hb ha b1 hrg
  by_cases hlt:k<4
  ·have q1:(k:Int)<4:=by omega
   have q2:(0:Int)≤(k:Int):=by omega
   have kw:IntKind.i64.wrap ((k:Int)+1)=(k:Int)+1:=by rw[IntKind.wrap_i64];omega
   have hk1:=Lib.hid hlt
   have hx:=hix.out k hlt wr
   have hr1:=Lib.hid (fun W hW=>hri.out W k hk1.out hW)
   obtain ⟨CX,hCX⟩:∃ CX,CX=(slcl (r.s k) (A (k+2)) (c (k+2))).toArray:=⟨_,rfl⟩
   rw[← hCX] at hx hr1
   have hs1:=Lib.hid (show (Try.prog.info? 25).map (·.size)=some CX.size by rw[hCX];exact szSl)
   have ho1:=Lib.hid (show CX.all (·.oneCell')=true by rw[hCX];exact slcl_one _ _ _)
   have hz1:=Lib.hid (show ZS.size=CX.size by rw[hCX,hZS'.out];rfl)
   clear hCX hlt hk
   cases hsr:slRight (r.s k) with
   |false=>
    rw[hsr] at hr1
    have hfin:=Lib.hid (show rcRight r=false by unfold rcRight;rw[slotsR_no r 4 k hk1.out hsr];rfl)
    clear hsr
    go_wp2_with (first
     |((with_reducible go_at_call 45);refine (hr1.out _ (below_step hb'.out b12.out)).mono ?_;rintro e w4 ⟨rfl,hbb⟩;have b4:=Lib.hid (below_step (below_step hb'.out b12.out) hbb);clear hbb)
     |(with_reducible refine wpList_store_row rfl 25 _ _ rfl wr.heap.size CX rfl rfl 25 ZS (heap_alloc_last _ _) hs1.out hz1.out ho1.out ?_;have b12:=Lib.hid (below_setRow ((Below.refl wr.heap.size wr).alloc (Nat.le_refl _) (.cells ZS 25 (0,0))) (Nat.le_refl _) CX);have hk5:=Lib.hid (setRow_heap (wr.alloc (.cells ZS 25 (0,0))) wr.heap.size ZS CX 25 (0,0) (heap_alloc_last _ _));generalize (wr.alloc (.cells ZS 25 (0,0))).setRow wr.heap.size CX=w3 at *)
     |(with_reducible refine wpList_load_row rfl 25 _ rfl wr.heap.size rfl 25 CX (0,0) _ hk5.out Try.underlying25 rfl hs1.out ?_))
    go_ret
    exact ⟨by rw[hfin.out];rfl,b4.out⟩
   |true=>
    rw[hsr] at hr1
    have hsucc:=Lib.hid (show slotsR r (k+1)=true by rw[slotsR_succ,hsl'.out,hsr];rfl)
    clear hsr
    go_wp2_with (first
     |((with_reducible go_at_call 45);refine (hr1.out _ (below_step hb'.out b12.out)).mono ?_;rintro e w4 ⟨rfl,hbb⟩;have b4:=Lib.hid (below_step (below_step hb'.out b12.out) hbb);have g4:=Lib.hid (heap_below (heap_below hg'.out b12.out) hbb);clear hbb)
     |(with_reducible refine wpList_store_row rfl 25 _ _ rfl wr.heap.size CX rfl rfl 25 ZS (heap_alloc_last _ _) hs1.out hz1.out ho1.out ?_;have b12:=Lib.hid (below_setRow ((Below.refl wr.heap.size wr).alloc (Nat.le_refl _) (.cells ZS 25 (0,0))) (Nat.le_refl _) CX);have hk5:=Lib.hid (setRow_heap (wr.alloc (.cells ZS 25 (0,0))) wr.heap.size ZS CX 25 (0,0) (heap_alloc_last _ _));generalize (wr.alloc (.cells ZS 25 (0,0))).setRow wr.heap.size CX=w3 at *)
     |(with_reducible refine wpList_load_row rfl 25 _ rfl wr.heap.size rfl 25 CX (0,0) _ hk5.out Try.underlying25 rfl hs1.out ?_))
    exact ⟨⟨k+1,hk1.out,by push_cast;rfl,hsucc.out,g4.out,b4.out⟩,by have:=hk1.out;simp only[intOf];omega⟩
  obtain rfl:k=4:=by omega
  obtain ⟨p0,p1,p2,p3,p4⟩:=rc_head hg'.out
  have hfin:=Lib.hid (show rcRight r=(decide (r.salt.length=16) && decide (r.check.length=32)) by unfold rcRight;rw[hsl'.out,Bool.true_and])
  clear hlt hk
  obtain ⟨n1,hn1⟩:∃ n,n=r.salt.length:=⟨_,rfl⟩
  obtain ⟨n2,hn2⟩:∃ n,n=r.check.length:=⟨_,rfl⟩
  rw[← hn1] at p2 hfin
  rw[← hn2] at p4 hfin
  clear hn1 hn2
  by_cases h16:n1=16
  ·subst h16
   by_cases h32:n2=32
   ·subst h32
    go_wp2_with fail
    go_ret
    exact ⟨by rw[hfin.out];rfl,hb'.out⟩
   have h32':((n2:Int)=32)=False:=by simp;omega
   have h32'':((n2:Int) == 32)=false:=by simp;omega
   have h32d:=Lib.hid (show decide (n2=32)=false by simp[h32])
   go_wp2_with fail
   go_ret
   exact ⟨by rw[hfin.out,h32d.out];rfl,hb'.out⟩
  have h16':((n1:Int)=16)=False:=by simp;omega
  have h16'':((n1:Int) == 16)=false:=by simp;omega
  have h16d:=Lib.hid (show decide (n1=16)=false by simp[h16])
  go_wp2_with fail
  go_ret
  exact ⟨by rw[hfin.out,h16d.out];rfl,hb'.out⟩
end Go.Proofs.Ytbajioiiaamokaa.Own
