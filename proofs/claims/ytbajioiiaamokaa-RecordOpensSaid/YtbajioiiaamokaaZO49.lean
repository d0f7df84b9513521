/- SmB, pruned (slim.py). -/
import Derived.Test.YtbajioiiaamokaaZO48
import Derived.Deep.DeepCutAuto
namespace Go.Proofs.Ytbajioiiaamokaa.Own
open Go.RowKit Go.Proofs.Ytbajioiiaamokaa.Arr Go.Proofs.Ytbajioiiaamokaa.QB Go.Proofs.YtbajioiiaamokaaW.PrintWords Go.Proofs.YtbajioiiaamokaaW.PrintLast Go.Proofs.YtbajioiiaamokaaW.PrintMore
set_option linter.unusedVariables false
set_option linter.unusedSimpArgs false
attribute [-go_sem] Instr.build
set_option maxHeartbeats 4000000 in
set_option maxRecDepth 100000 in
theorem recSame_zero (r:RcT) (A:Nat→Option Addr) (c:Nat→Nat) (w:World) (h:RcV w r A c) (hs:r.salt.length=16) :
  Calls Try.prog 16 #[.agg (rcl r A c).toArray,.agg zRc] w fun e w'=>e=.returned (.bool false)∧Below w.heap.size w w':=by
 obtain ⟨CA,hCA⟩:∃ CA,CA=(rcl r A c).toArray:=⟨_,rfl⟩
 obtain ⟨CB,hCB⟩:∃ CB,CB=zRc:=⟨_,rfl⟩
 have hs0:=Lib.hid (fun (W:World) (hW:Below w.heap.size w W)=>show Calls Try.prog 20 #[.slice (A 0) 16 (c 0),.slice none 0 0] W (fun e w'=>e=.returned (.bool false)∧Drawn0 W w') from by
  have:=same_any r.salt [] (by omega) W (A 0) (c 0) none 0 (Kd.C_below (h 0 (by omega)).1 hW) (h 0 (by omega)).2 (RcV.zero W 0 (by omega)).1 (Nat.zero_le _)
  rw[hs,decide_eq_false (by intro e;rw[e] at hs;simp at hs)] at this
  exact this)
 obtain ⟨W1,hW1⟩:∃ W1,W1=(w.alloc (.cells CA 39 (0,0))).alloc (.cells CB 39 (0,0)):=⟨_,rfl⟩
 have ha:=Lib.hid (show W1.heap[w.heap.size]?=some (.cells (rcl r A c).toArray 39 (0,0)) by rw[hW1,heap_skip _ _ _ (by simp),← hCA];exact heap_alloc_last _ _)
 have hbk:=Lib.hid (show W1.heap[w.heap.size+1]?=some (.cells (rcl rcZero (fun _=>none) (fun _=>0)).toArray 39 (0,0)) by rw[hW1,show (rcl rcZero (fun _=>none) (fun _=>0)).toArray=CB from by rw[hCB]];have:=heap_alloc_last (w.alloc (.cells CA 39 (0,0))) (.cells CB 39 (0,0));simpa using this)
 have b1:=Lib.hid (show Below w.heap.size w W1 by rw[hW1];exact below_alloc ((Below.refl _ _).alloc (Nat.le_refl _) _) _)
 rw[← hCA,← hCB]
 obtain ⟨p0,p1,p2,p3,p4⟩:=rc_head ha.out
 have hz:=rc_head hbk.out
 obtain ⟨r0,r1,r2,r3,r4⟩:W1.cell? ⟨w.heap.size+1,0,none⟩=some (.int .u64 0)∧W1.cell? ⟨w.heap.size+1,1,none⟩=some (.int .u64 0)∧W1.cell? ⟨w.heap.size+1,2,none⟩=some (.slice none 0 0)∧W1.cell? ⟨w.heap.size+1,3,none⟩=some (.int .u64 0)∧W1.cell? ⟨w.heap.size+1,4,none⟩=some (.slice none 0 0):=hz
 obtain ⟨G0,hG0⟩:∃ v,v=r.gen:=⟨_,rfl⟩
 obtain ⟨G1,hG1⟩:∃ v,v=r.epoch:=⟨_,rfl⟩
 obtain ⟨G3,hG3⟩:∃ v,v=r.bad:=⟨_,rfl⟩
 rw[← hG0] at p0
 rw[← hG1] at p1
 rw[← hG3] at p3
 rw[hs] at p2
 clear h hs hCA hCB hG0 hG1 hG3
 go_enter Try.func16,Try.ntmps16
 go_upto_region 1 with fail
 rw[← hW1]
 clear hW1
 go_cut [5] (fun v w'=>v=.bool false∧Below w.heap.size w w')
 case first=>
  by_cases h0:G0=0
  ·subst h0
   by_cases h1:G1=0
   ·subst h1
    by_cases h3:G3=0
    ·subst h3
     go_wp2_with ((with_reducible go_at_call 20);(with_reducible refine (hs0.out _ b1.out).mono ?_);rintro e w2 ⟨rfl,hd⟩;have b2:=Lib.hid (below_step b1.out (drawn_below hd));clear hd)
     go_meet
     exact ⟨rfl,b2.out⟩
    go_wp2_with fail
    go_meet
    exact ⟨rfl,b1.out⟩
   go_wp2_with fail
   go_meet
   exact ⟨rfl,b1.out⟩
  go_wp2_with fail
  go_meet
  exact ⟨rfl,b1.out⟩
 case rest=>
  obtain ⟨rfl,hb1⟩:=hcut
  have b2:=Lib.hid hb1
  clear hb1 p0 p1 p2 p3 p4 r0 r1 r2 r3 r4 hs0 ha hbk b1
  go_wp2_with fail
  go_loopw [5,6] (fun v5 v6 wr=>∃ k:Nat,k≤4∧v6=.int .i64 k∧v5=.bool false∧Below w.heap.size w wr) (fun _ v6 _=>4 - (intOf v6).toNat)
  case atStart=>exact ⟨0,by omega,rfl,rfl,b2.out⟩
  case round=>
   obtain ⟨k,hk,rfl,rfl,hb⟩:=hrel
   have hb':=Lib.hid hb
   clear hb b2
   by_cases hlt:k<4
   ·have q1:(k:Int)<4:=by omega
    have q2:(0:Int)≤(k:Int):=by omega
    have kw:IntKind.i64.wrap ((k:Int)+1)=(k:Int)+1:=by rw[IntKind.wrap_i64];omega
    have hk1:=Lib.hid hlt
    clear hlt hk
    go_wp2_with fail
    refine start_ (n:=13) (S:=fun w'=>Below w.heap.size w w') (ds:=[]) #[false,false,false,false,false,false,false,false,false,false,false,false,false] (by kernel_rfl) rfl rfl (by exact (below_drew hb'.out)) (fun hHeld=>?_)
    refine pure_ (i:=0) (N:=some 44) (v:=?_) (a':=?_) #[true,false,false,false,false,false,false,false,false,false,false,false,false] rfl rfl (by kernel_rfl) (fun _ _ _ h=>h) (Or.inl ⟨by rfl,?_⟩) ?_ ?_
    rotate_left
    ·intro w';go_simp;with_reducible rfl
    rotate_left
    ·simp only[Act.put,sZ0,sZ1,sZ2,i64_w,i32_w];rfl
    refine pure_ (i:=1) (N:=some 45) (v:=?_) (a':=?_) #[true,true,false,false,false,false,false,false,false,false,false,false,false] rfl rfl (by kernel_rfl) (fun _ _ _ h=>h) (Or.inl ⟨by rfl,?_⟩) ?_ ?_
    rotate_left
    ·intro w';go_simp;with_reducible rfl
    rotate_left
    ·simp only[Act.put,sZ0,sZ1,sZ2,i64_w,i32_w];rfl
    refine pure_ (i:=2) (N:=some 46) (v:=undef) (a':=?_) #[true,true,true,false,false,false,false,false,false,false,false,false,false] rfl rfl (by kernel_rfl) (fun _ _ _ h=>h) (Or.inr ⟨by rfl,rfl⟩) ?_ ?_
    rotate_left
    ·simp only[Act.put,sZ0,sZ1,sZ2,i64_w,i32_w];rfl
    refine pure_ (i:=3) (N:=some 47) (v:=undef) (a':=?_) #[true,true,true,true,false,false,false,false,false,false,false,false,false] rfl rfl (by kernel_rfl) (fun _ _ _ h=>h) (Or.inr ⟨by rfl,rfl⟩) ?_ ?_
    rotate_left
    ·simp only[Act.put,sZ0,sZ1,sZ2,i64_w,i32_w];rfl
    refine pure_ (i:=4) (N:=some 48) (v:=undef) (a':=?_) #[true,true,true,true,true,false,false,false,false,false,false,false,false] rfl rfl (by kernel_rfl) (fun _ _ _ h=>h) (Or.inr ⟨by rfl,rfl⟩) ?_ ?_
    rotate_left
    ·simp only[Act.put,sZ0,sZ1,sZ2,i64_w,i32_w];rfl
    refine pure_ (i:=5) (N:=some 49) (v:=undef) (a':=?_) #[true,true,true,true,true,true,false,false,false,false,false,false,false] rfl rfl (by kernel_rfl) (fun _ _ _ h=>h) (Or.inr ⟨by rfl,rfl⟩) ?_ ?_
    rotate_left
    ·simp only[Act.put,sZ0,sZ1,sZ2,i64_w,i32_w];rfl
    refine pure_ (i:=6) (N:=some 50) (v:=undef) (a':=?_) #[true,true,true,true,true,true,true,false,false,false,false,false,false] rfl rfl (by kernel_rfl) (fun _ _ _ h=>h) (Or.inr ⟨by rfl,rfl⟩) ?_ ?_
    rotate_left
    ·simp only[Act.put,sZ0,sZ1,sZ2,i64_w,i32_w];rfl
    refine pure_ (i:=7) (N:=some 51) (v:=undef) (a':=?_) #[true,true,true,true,true,true,true,true,false,false,false,false,false] rfl rfl (by kernel_rfl) (fun _ _ _ h=>h) (Or.inr ⟨by rfl,rfl⟩) ?_ ?_
    rotate_left
    ·simp only[Act.put,sZ0,sZ1,sZ2,i64_w,i32_w];rfl
    refine pure_ (i:=8) (N:=some 52) (v:=undef) (a':=?_) #[true,true,true,true,true,true,true,true,true,false,false,false,false] rfl rfl (by kernel_rfl) (fun _ _ _ h=>h) (Or.inr ⟨by rfl,rfl⟩) ?_ ?_
    rotate_left
    ·simp only[Act.put,sZ0,sZ1,sZ2,i64_w,i32_w];rfl
    refine pure_ (i:=9) (N:=some 53) (v:=undef) (a':=?_) #[true,true,true,true,true,true,true,true,true,true,false,false,false] rfl rfl (by kernel_rfl) (fun _ _ _ h=>h) (Or.inr ⟨by rfl,rfl⟩) ?_ ?_
    rotate_left
    ·simp only[Act.put,sZ0,sZ1,sZ2,i64_w,i32_w];rfl
    refine pure_ (i:=10) (N:=some 54) (v:=undef) (a':=?_) #[true,true,true,true,true,true,true,true,true,true,true,false,false] rfl rfl (by kernel_rfl) (fun _ _ _ h=>h) (Or.inr ⟨by rfl,rfl⟩) ?_ ?_
    rotate_left
    ·simp only[Act.put,sZ0,sZ1,sZ2,i64_w,i32_w];rfl
    refine pure_ (i:=11) (N:=some 55) (v:=?_) (a':=?_) #[true,true,true,true,true,true,true,true,true,true,true,true,false] rfl rfl (by kernel_rfl) (fun _ _ _ h=>h) (Or.inl ⟨by rfl,?_⟩) ?_ ?_
    rotate_left
    ·intro w';go_simp;with_reducible rfl
    rotate_left
    ·simp only[Act.put,sZ0,sZ1,sZ2,i64_w,i32_w];rfl
    refine pure_ (i:=12) (N:=some 5) (v:=?_) (a':=?_) #[true,true,true,true,true,true,true,true,true,true,true,true,true] rfl rfl (by kernel_rfl) (fun _ _ _ h=>h) (Or.inl ⟨by rfl,?_⟩) ?_ ?_
    rotate_left
    ·intro w';go_simp;with_reducible rfl
    rotate_left
    ·simp only[Act.put,sZ0,sZ1,sZ2,i64_w,i32_w];rfl
    refine done_ (by kernel_rfl) ?_
    go_wp2_with fail
    exact ⟨⟨k+1,hk1.out,by push_cast;rfl,rfl,hHeld⟩,by have:=hk1.out;simp only[intOf];omega⟩
   obtain rfl:k=4:=by omega
   clear hlt hk
   go_wp2_with fail
   go_ret
   exact ⟨rfl,hb'.out⟩
end Go.Proofs.Ytbajioiiaamokaa.Own
