/- ONum, pruned (slim.py). -/
import Derived.Test.YtbajioiiaamokaaZB2
import Derived.Test.YtbajioiiaamokaaProg
import Derived.Test.YtbajioiiaamokaaZB1
namespace Go.Proofs.Ytbajioiiaamokaa.Own
open Go.RowKit Go.Proofs.Ytbajioiiaamokaa.Arr Go.Proofs.YtbajioiiaamokaaW.PrintWords Go.Proofs.YtbajioiiaamokaaW.PrintLast Go.Proofs.YtbajioiiaamokaaW.PrintMore
set_option linter.unusedVariables false
set_option linter.unusedSimpArgs false
def numStep (n x:Int):Int:=Go.bits .or .u64 (IntKind.u64.wrap (n*256)) (IntKind.u64.wrap x)
def numL (l:List Int):Int:=l.foldl numStep 0
theorem numL_take (l:List Int) (k:Nat) (h:k<l.length):numL (l.take (k+1))=numStep (numL (l.take k)) (l.getD k 0):=by
 unfold numL
 rw[List.take_succ_eq_append_getElem h,List.foldl_append]
 simp[h]
attribute [local go_sem] max2_int min2_int
theorem info5:(Try.prog.info? 5).map (fun i=>(i.zero,i.size,i.bytes))=some (some (.int .u8 0),1,1):=by kernel_rfl
set_option maxHeartbeats 2000000 in
set_option maxRecDepth 100000 in
theorem num_any (A0:Option Addr) (c0:Nat) (l0:List Int) (w:World) (hr0:Kd.C (Kd.int .u8) w A0 l0.length l0) (hc0:l0.length≤c0) :
  Calls Try.prog 49 #[.slice A0 l0.length c0] w fun e w'=>e=.returned (.int .u64 (numL (l0.drop (l0.length - 8))))∧Drawn0 w w':=by
 obtain ⟨i0,hi,_,hs,_⟩:=info_parts info5
 have hm0:l0.length≤9223372036854775807:=(readsInt_of_C hr0).2.1
 obtain ⟨A',hcut,hA'⟩:=print_cut (P:=Try.prog) 23 5 .i64 Try.underlying23 hi hs A0 l0.length c0 (l0.length - 8) (by omega)
 obtain ⟨L,hL⟩:∃ L,L=l0.drop (l0.length - 8):=⟨_,rfl⟩
 have hR:=hA' w .u8 l0 hc0 (readsInt_of_C hr0)
 have hLl:l0.length - (l0.length - 8)=L.length:=by rw[hL,List.length_drop]
 rw[← hL,hLl] at hR
 rw[← hL]
 rw[hLl] at hcut
 have hcell:∀ j,j<L.length→∃ ad:Addr,A'=some ad∧w.cell? (ad.add j)=some (.int .u8 (L.getD j 0)):=fun j hj=>by
  obtain ⟨ad,e,hc⟩:=hR.2.2 (by omega)
  exact ⟨ad,e,hc j hj⟩
 have hcell':=Lib.hid hcell
 have hLb:L.length≤8:=by omega
 clear hR hA' hr0 hi hs hL hLl hcell
 by_cases h8:8<l0.length
 ·have e8:((l0.length - 8:Nat):Int)=(l0.length:Int) - 8:=by omega
  rw[e8] at hcut
  clear e8
  go_enter Try.func49,Try.ntmps49
  go_wp2_with fail
  go_loopw [3,5,13] (fun n _ i wr=>∃ k:Nat,k≤L.length∧i=.int .i64 k∧n=.int .u64 (numL (L.take k))∧wr=w) (fun _ _ i _=>L.length - (intOf i).toNat)
  case atStart=>exact ⟨0,by omega,rfl,rfl,rfl⟩
  case round=>
   obtain ⟨k,hk,rfl,rfl,rfl⟩:=hrel
   by_cases hlt:k<L.length
   ·obtain ⟨ad,rfl,hc⟩:=hcell'.out k hlt
    have hs:=numL_take L k hlt
    obtain ⟨x,hx⟩:∃ x,x=L.getD k 0:=⟨_,rfl⟩
    rw[← hx] at hc hs
    have hs':=Lib.hid hs
    clear hs hx hcut
    go_wp2
    go_roundw
    case rel=>exact ⟨k+1,by omega,by go_num,by rw[hs'.out];rfl,by first | rfl | trivial⟩
    case measure=>simp[intOf];omega
   obtain rfl:k=L.length:=by omega
   rw[List.take_length]
   clear hcut
   go_wp2
   go_ret
   exact ⟨rfl,Drawn0.refl _⟩
 have e8:((l0.length - 8:Nat):Int)=0:=by omega
 rw[e8] at hcut
 clear e8
 go_enter Try.func49,Try.ntmps49
 go_wp2_with fail
 go_loopw [3,5,13] (fun n _ i wr=>∃ k:Nat,k≤L.length∧i=.int .i64 k∧n=.int .u64 (numL (L.take k))∧wr=w) (fun _ _ i _=>L.length - (intOf i).toNat)
 case atStart=>exact ⟨0,by omega,rfl,rfl,rfl⟩
 case round=>
  obtain ⟨k,hk,rfl,rfl,rfl⟩:=hrel
  by_cases hlt:k<L.length
  ·obtain ⟨ad,rfl,hc⟩:=hcell'.out k hlt
   have hs:=numL_take L k hlt
   obtain ⟨x,hx⟩:∃ x,x=L.getD k 0:=⟨_,rfl⟩
   rw[← hx] at hc hs
   have hs':=Lib.hid hs
   clear hs hx hcut
   go_wp2
   go_roundw
   case rel=>exact ⟨k+1,by omega,by go_num,by rw[hs'.out];rfl,by first | rfl | trivial⟩
   case measure=>simp[intOf];omega
  obtain rfl:k=L.length:=by omega
  rw[List.take_length]
  clear hcut
  go_wp2
  go_ret
  exact ⟨rfl,Drawn0.refl _⟩
def octet_Num.f (l0:List Int):Option Int:=some (numL (l0.drop (l0.length - 8)))
theorem octet_Num.calls (A0:Option Addr) (c0:Nat) (l0:List Int) (r:Int) (w:World) (hr0:Kd.C (Kd.int .u8) w A0 l0.length l0) (hc0:l0.length≤c0) (h:octet_Num.f l0=some r) :
  Calls Try.prog 49 #[.slice A0 l0.length c0] w fun e w'=>e=.returned (.int .u64 r)∧Drawn0 w w':=by
 obtain rfl:=Option.some.inj h
 exact num_any A0 c0 l0 w hr0 hc0
end Go.Proofs.Ytbajioiiaamokaa.Own
