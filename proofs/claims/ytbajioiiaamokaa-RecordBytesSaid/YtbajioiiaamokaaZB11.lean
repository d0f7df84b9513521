/- ShW, pruned (slim.py). -/
import Derived.Test.YtbajioiiaamokaaZB3
import Derived.Test.YtbajioiiaamokaaZB4
import Derived.Test.YtbajioiiaamokaaZB5
import Derived.Test.YtbajioiiaamokaaZB6
import Derived.Test.YtbajioiiaamokaaZB7
import Derived.Test.YtbajioiiaamokaaZB8
import Derived.Test.YtbajioiiaamokaaZB9
import Derived.Test.YtbajioiiaamokaaZB10
import Derived.RegionTactic
import Derived.BigRegion
import Derived.Deep.QuietTactic
import Derived.BigQuiet
namespace Go.Proofs.Ytbajioiiaamokaa.Own
open Go.RowKit Go.Proofs.Ytbajioiiaamokaa.Arr Go.Proofs.Ytbajioiiaamokaa.QB Go.Proofs.YtbajioiiaamokaaW.PrintWords Go.Proofs.YtbajioiiaamokaaW.PrintLast Go.Proofs.YtbajioiiaamokaaW.PrintMore
set_option linter.unusedVariables false
set_option linter.unusedSimpArgs false
theorem info64:(Try.prog.info? 147).map (fun i=>(i.zero,i.size))=some (some (.agg (ints .u32 (zer 64))),64):=by kernel_rfl
theorem info8:(Try.prog.info? 138).map (fun i=>(i.zero,i.size))=some (some (.agg (ints .u32 (zer 8))),8):=by kernel_rfl
theorem size64:(Try.prog.info? 147).map (·.size)=some 64:=by kernel_rfl
theorem size8:(Try.prog.info? 138).map (·.size)=some 8:=by kernel_rfl
theorem sizeU32:(Try.prog.info? 87).map (·.size)=some 1:=by kernel_rfl
theorem sz64 {k:IntKind} {l:List Int} (h:l.length=64):(Try.prog.info? 147).map (·.size)=some (ints k l).size:=by rw[ints_size,h,size64]
theorem sz8 {k:IntKind} {l:List Int} (h:l.length=8):(Try.prog.info? 138).map (·.size)=some (ints k l).size:=by rw[ints_size,h,size8]
def rl (a n:Int):Int:=(bits_RotateLeft32.f a n).getD 0
theorem rl_some (a n:Int):bits_RotateLeft32.f a n=some (rl a n):=by
 unfold rl bits_RotateLeft32.f
 rw[if_pos (bits_lo_u64 _ _ _),if_pos (by rw[IntKind.wrap_u64];omega)]
 rfl
theorem rot_any (a n:Int) (w:World):Calls Try.prog 107 #[.int .u32 a,.int .i64 n] w fun e w'=>e=.returned (.int .u32 (rl a n))∧Drawn0 w w':=
 bits_RotateLeft32.calls a n _ w (rl_some a n)
def sig0 (x:Int):Int:=Go.bits .xor .u32 (Go.bits .xor .u32 (rl x (-7)) (rl x (-18))) (x / 8)
def sig1 (y:Int):Int:=Go.bits .xor .u32 (Go.bits .xor .u32 (rl y (-17)) (rl y (-19))) (y / 1024)
def wval (b:List Int) (t:Nat) (W:List Int):Int:=
 if t<16 then numL ((b.take (4*t+4)).drop (4*t)) % 4294967296
 else (((sig1 (W.getD (t - 2) 0)+W.getD (t - 7) 0) % 4294967296+sig0 (W.getD (t - 15) 0)) % 4294967296+W.getD (t - 16) 0) % 4294967296
def ws (b:List Int):Nat→List Int
 |0=>zer 64
 |t+1=>(ws b t).set t (wval b t (ws b t))
theorem ws_length (b:List Int) (t:Nat):(ws b t).length=64:=by
 induction t with
 |zero=>exact zer_length 64
 |succ t ih=>rw[ws,List.length_set,ih]
set_option maxHeartbeats 4000000 in
set_option maxRecDepth 100000 in
theorem words_any (A0:Option Addr) (c0:Nat) (l0:List Int) (w:World) (hr0:Kd.C (Kd.int .u8) w A0 64 l0) (hl:l0.length=64) (hc0:64≤c0) :
  Calls Try.prog 105 #[.slice A0 64 c0] w fun e w'=>e=.returned (.agg (ints .u32 (ws l0 64)))∧Below w.heap.size w w':=by
 obtain ⟨hz,_⟩:=zero_of_info (P:=Try.prog) info64
 obtain ⟨i0,hi,_,hs,_⟩:=info_parts info5
 have hr0':=Lib.hid hr0
 have hl':=Lib.hid hl
 have hcut:∀ t:Nat,t<16→∃ A':Option Addr,(∀ W:World,(Instr.slice 23 (.slice A0 64 c0) (some (.int .i64 (4*(t:Int)))) (some (.int .i64 (4*(t:Int)+4))) none).run Try.prog W=.ok (.slice A' 4 (c0 - 4*t)) W) ∧
   ∀ w:World,ReadsInt w .u8 A0 64 l0→Kd.C (Kd.int .u8) w A' 4 ((l0.take (4*t+4)).drop (4*t)):=by
  intro t ht
  obtain ⟨A',h1,h2⟩:=cut2 (P:=Try.prog) 23 5 .i64 .i64 .u8 Try.underlying23 hi hs A0 64 c0 (4*t) (4*t+4) l0 (by omega) (by omega) hc0
  refine ⟨A',fun W=>?_,fun w h=>?_⟩
  ·have:=h1 W
   rw[show 4*t+4 - 4*t=4 from by omega] at this
   have e1:((4*t:Nat):Int)=4*(t:Int):=by omega
   have e2:((4*t+4:Nat):Int)=4*(t:Int)+4:=by omega
   rw[e1,e2] at this
   exact this
  have:=h2 w h
  rw[show 4*t+4 - 4*t=4 from by omega] at this
  exact C_of_readsInt this
 have hcut':=Lib.hid hcut
 clear hr0 hl hcut hi hs
 go_enter Try.func105,Try.ntmps105
 go_wp2_with fail
 clear hz
 go_loopw [4,10] (fun _ i wr=>∃ k:Nat,k≤16∧i=.int .i64 k∧wr.heap[w.heap.size+1]?=some (.cells (ints .u32 (ws l0 k)) 147 (0,0))∧wr.heap[w.heap.size]?=some (.cells (ints .u32 (zer 64)) 147 (0,0))∧Below w.heap.size w wr) (fun _ i _=>16 - (intOf i).toNat)
 case atStart=>
  refine ⟨0,by omega,rfl,heap_at _ _ _ (by simp),?_,((Below.refl _ _).alloc (Nat.le_refl _) _).alloc (by simp) _⟩
  rw[heap_skip _ _ _ (by simp)];exact heap_at _ _ _ rfl
 case round=>
  obtain ⟨k,hk,rfl,h3,h2,hb⟩:=hrel
  have h2':=Lib.hid h2
  clear h2
  by_cases hlt:k<16
  ·have hc3:=ints_cell h3 k (by rw[ws_length];omega)
   have hf3:=ints_free h3 k
   obtain ⟨p,hp⟩:∃ p,p=(ws l0 k).getD k 0:=⟨_,rfl⟩
   rw[← hp] at hc3
   have h3':=Lib.hid h3
   obtain ⟨A',hct,hA'⟩:=hcut'.out k hlt
   have hC:=hA' wr (readsInt_of_C (Kd.C_below hr0'.out hb))
   have hlen4:((l0.take (4*k+4)).drop (4*k)).length=4:=by rw[List.length_drop,List.length_take,hl'.out];omega
   have hwv:wval l0 k (ws l0 k)=numL ((l0.take (4*k+4)).drop (4*k)) % 4294967296:=by rw[wval,if_pos hlt]
   obtain ⟨L,hL⟩:∃ L,L=(l0.take (4*k+4)).drop (4*k):=⟨_,rfl⟩
   rw[← hL] at hC hlen4 hwv
   have hnum:Calls Try.prog 49 #[.slice A' 4 (c0 - 4*k)] wr fun e w'=>e=.returned (.int .u64 (numL L))∧Drawn0 wr w':=by
    have:=num_any A' (c0 - 4*k) L wr (by rw[hlen4];exact hC) (by omega)
    rw[hlen4] at this
    simpa using this
   have hnum':=Lib.hid hnum
   have hwv':=Lib.hid hwv
   clear hC hlen4 hwv hnum hA' hp h3 hL
   go_wp2_with (first | (go_at_call 49;refine hnum'.out.mono ?_;rintro e w1 ⟨rfl,⟨nd,rfl⟩⟩))
   go_roundw
   case rel=>
    refine ⟨k+1,by omega,by go_num,?_,?_,?_⟩
    ·refine (heap_setCell_same _ _ _ _ _ _ (by exact h3'.out)).trans ?_
     rw[ints_set,ws,hwv'.out]
    ·rw[heap_setCell_other _ _ _ _ (by simp)];exact h2'.out
    exact (pw_below_drewN hb _).setCell (by simp) _
   case measure=>simp[intOf];omega
  obtain rfl:k=16:=by omega
  have h3':=Lib.hid h3
  clear h3 hlt
  go_wp2_with fail
  go_loopw [5] (fun i wr=>∃ k:Nat,16≤k∧k≤64∧i=.int .i64 k∧wr.heap[w.heap.size+1]?=some (.cells (ints .u32 (ws l0 k)) 147 (0,0))∧wr.heap[w.heap.size]?=some (.cells (ints .u32 (zer 64)) 147 (0,0))∧Below w.heap.size w wr) (fun i _=>64 - (intOf i).toNat)
  case atStart=>exact ⟨16,by omega,by omega,rfl,h3'.out,h2'.out,hb⟩
  case round=>
   clear h2' h3' hb
   obtain ⟨k,hk16,hk,rfl,h3,h2,hb⟩:=hrel
   have h2':=Lib.hid h2
   clear h2
   by_cases hlt:k<64
   ·have hwl:=ws_length l0 k
    obtain ⟨W,hW⟩:∃ W,W=ws l0 k:=⟨_,rfl⟩
    rw[← hW] at h3 hwl
    have hwv:wval l0 k W=(((sig1 (W.getD (k - 2) 0)+W.getD (k - 7) 0) % 4294967296+sig0 (W.getD (k - 15) 0)) % 4294967296+W.getD (k - 16) 0) % 4294967296:=by rw[wval,if_neg (by omega)]
    have hc2:=ints_cell h3 (k - 2) (by omega)
    have hc7:=ints_cell h3 (k - 7) (by omega)
    have hc15:=ints_cell h3 (k - 15) (by omega)
    have hc16:=ints_cell h3 (k - 16) (by omega)
    have hc0':=ints_cell h3 k (by omega)
    have hf3:=ints_free h3 k
    obtain ⟨x2,hx2⟩:∃ x,x=W.getD (k - 2) 0:=⟨_,rfl⟩
    obtain ⟨x7,hx7⟩:∃ x,x=W.getD (k - 7) 0:=⟨_,rfl⟩
    obtain ⟨x15,hx15⟩:∃ x,x=W.getD (k - 15) 0:=⟨_,rfl⟩
    obtain ⟨x16,hx16⟩:∃ x,x=W.getD (k - 16) 0:=⟨_,rfl⟩
    obtain ⟨x0,hx0⟩:∃ x,x=W.getD k 0:=⟨_,rfl⟩
    rw[← hx2] at hc2 hwv
    rw[← hx7] at hc7 hwv
    rw[← hx15] at hc15 hwv
    rw[← hx16] at hc16 hwv
    rw[← hx0] at hc0'
    have e2:((k:Int) - 2).toNat=k - 2:=by omega
    have e7:((k:Int) - 7).toNat=k - 7:=by omega
    have e15:((k:Int) - 15).toNat=k - 15:=by omega
    have e16:((k:Int) - 16).toNat=k - 16:=by omega
    have g2:(0≤(k:Int) - 2)=True:=eq_true (by omega)
    have g7:(0≤(k:Int) - 7)=True:=eq_true (by omega)
    have g15:(0≤(k:Int) - 15)=True:=eq_true (by omega)
    have g16:(0≤(k:Int) - 16)=True:=eq_true (by omega)
    have l2:((k:Int) - 2<64)=True:=eq_true (by omega)
    have l7:((k:Int) - 7<64)=True:=eq_true (by omega)
    have l15:((k:Int) - 15<64)=True:=eq_true (by omega)
    have l16:((k:Int) - 16<64)=True:=eq_true (by omega)
    have h3':=Lib.hid h3
    have hwv':=Lib.hid hwv
    have hW':=Lib.hid hW
    have hwl':=Lib.hid hwl
    clear h3 hwv hW hwl hx2 hx7 hx15 hx16 hx0
    go_wp2_with fail
    go_quiet (fail)
    go_wp2_with (first | (go_at_call 107;refine (rot_any _ _ _).mono ?_;rintro e w1 ⟨rfl,⟨nd,rfl⟩⟩))
    go_region
    go_wp2
    refine ⟨?rel,?measure⟩
    case rel=>
     refine ⟨_,_,_,_,_,_,_,_,_,_,_,_,_,_,_,_,_,_,_,_,_,_,_,_,_,_,_,_,_,_,_,_,_,_,_,_,_,_,_,_,_,_,_,_,_,_,_,_,⟨k+1,by omega,by omega,by go_num,?_,?_,?_⟩,rfl⟩
     ·refine (heap_setCell_same _ _ _ _ _ _ (by exact h3'.out)).trans ?_
      rw[ints_set,ws,← hW'.out,hwv'.out]
      simp only[sig0,sig1,Int.emod_add_emod,Int.add_emod_emod]
     ·rw[heap_setCell_other _ _ _ _ (by simp)];exact h2'.out
     exact Below.setCell (by repeat (first | exact hb | apply pw_below_drewN | apply below_drew1)) (by simp) _
    case measure=>simp[intOf];omega
   obtain rfl:k=64:=by omega
   have h3':=Lib.hid h3
   have hwl:=Lib.hid (ws_length l0 64)
   clear h3 hlt
   go_wp2_with (first | (with_reducible refine wpList_load_row rfl 147 _ rfl (w.heap.size+1) rfl 147 (ints .u32 (ws l0 64)) (0,0) _ h3'.out Try.underlying147 rfl (sz64 hwl.out) ?_) | (with_reducible refine wpList_store_row rfl 147 _ _ rfl w.heap.size (ints .u32 (ws l0 64)) rfl rfl 147 (ints .u32 (zer 64)) h2'.out (sz64 hwl.out) (sz_eq ((zer_length 64).trans hwl.out.symm)) (ints_one _ _) ?_))
   refine bodyPost_ret (v:=.agg (ints .u32 (ws l0 64))) (results_cell_row (p:=2) (ty:=147) rfl _ _ w.heap.size 147 _ (0,0) _ rfl (setRow_heap _ _ (ints .u32 (zer 64)) _ _ _ h2'.out) Try.underlying147 rfl (sz64 hwl.out)) rfl ⟨rfl,?_⟩
   exact below_setRow hb (Nat.le_refl _) _
end Go.Proofs.Ytbajioiiaamokaa.Own
