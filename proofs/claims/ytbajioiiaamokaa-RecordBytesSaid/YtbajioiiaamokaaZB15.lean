/- ShN, pruned (slim.py). -/
import Derived.Test.YtbajioiiaamokaaZB14
namespace Go.Proofs.Ytbajioiiaamokaa.Own
open Go.RowKit Go.Proofs.Ytbajioiiaamokaa.Arr Go.Proofs.Ytbajioiiaamokaa.QB Go.Proofs.YtbajioiiaamokaaW.PrintWords Go.Proofs.YtbajioiiaamokaaW.PrintLast Go.Proofs.YtbajioiiaamokaaW.PrintMore
set_option linter.unusedVariables false
set_option linter.unusedSimpArgs false
attribute [-go_sem] Instr.build
theorem builtH:Try.prog.built 141 (#[(0,.agg (ints .u32 H0)),(3,.bool true)]:Array (Nat × Value)).toList=some (hcs H0 (.slice none 0 0) 0 true):=by kernel_rfl
set_option maxHeartbeats 2000000 in
set_option maxRecDepth 100000 in
theorem new_any (w:World):Calls Try.prog 86 #[] w fun e w'=>∃ g,e=.returned (.pointer (some ⟨g,0,none⟩))∧w.heap.size≤g∧HashAt w' g H0 none 0 [] 0 true∧Below w.heap.size w w':=by
 have hb:∀ W:World,(Instr.build 141 #[(0,.agg (ints .u32 H0)),(3,.bool true)]).run Try.prog W=.ok (.agg (hcs H0 (.slice none 0 0) 0 true)) W:=fun W=>run_build W _ _ _ builtH
 have hfirst:=first_any
 obtain ⟨T,hT⟩:∃ T,T=H0:=⟨_,rfl⟩
 have hT8:T.length=8:=by rw[hT];rfl
 rw[← hT] at hb hfirst ⊢
 have hfirst':=Lib.hid hfirst
 have hT8':=Lib.hid hT8
 clear hT hT8 hfirst
 go_enter Try.func86,Try.ntmps86
 go_wp2_with (go_at_call 96;refine (hfirst'.out _).mono ?_;rintro e w1 ⟨rfl,hb1⟩)
 refine bodyPost_ret (results_tmp rfl _ _ _) rfl ⟨w1.heap.size,rfl,hb1.size,⟨hT8'.out,?_,Rd.nil _ _ _,Nat.zero_le _⟩,hb1.alloc hb1.size _⟩
 exact heap_at _ _ _ rfl
set_option maxHeartbeats 4000000 in
set_option maxRecDepth 100000 in
theorem write_true (w:World) (g:Nat) (S0:List Int) (A:Option Addr) (c:Nat) (l:List Int) (n:Int) (h:HashAt w g S0 A c l n true) (B:Option Addr) (cb:Nat) (m:List Int) (hm:Rd w g B m)
  (hlen:l.length+m.length≤70368744177664) (hn0:0≤n) (hn1:n+(m.length:Int)≤4611686018427387904) :
  Calls Try.prog 87 #[.pointer (some ⟨g,0,none⟩),.slice B m.length cb] w fun e w'=>e=.returned (.tuple #[])∧∃ A' c',HashAt w' g (absorb ((l++m).length / 64) S0 (l++m)) A' c' ((l++m).drop (64*((l++m).length / 64))) (n+m.length) true∧Chg g w w':=by
 have hc10:=hcell10 h.st8 h.obj
 have hat:=h
 obtain ⟨S,hS⟩:∃ S,S=S0:=⟨_,rfl⟩
 rw[← hS] at hat ⊢
 clear h hS
 go_enter Try.func87,Try.ntmps87
 have hm':=Lib.hid hm
 have hs8':=Lib.hid hat.st8
 have hcut:=cut_full A l.length c hat.cap
 have hcapi:((l.length:Int)≤(c:Int))=True:=eq_true (by have:=hat.cap;omega)
 have hat':=Lib.hid hat
 have hlen':=Lib.hid hlen
 clear hm hat hlen
 go_wp2_with fail
 refine start_ (n:=21) (S:=fun w'=>w'.heap[g]?=some (hobj S (.slice A l.length c) n true)) (ds:=[20]) #[false,false,false,false,false,false,false,false,false,false,false,false,false,false,false,false,false,false,false,false,false] (by kernel_rfl) rfl rfl (by exact hat'.out.obj) (fun hHeld=>?_)
 refine pure_ (i:=0) (N:=some 18) (v:=?_) (a':=?_) #[true,false,false,false,false,false,false,false,false,false,false,false,false,false,false,false,false,false,false,false,false] rfl rfl (by kernel_rfl) (fun _ _ _ h=>h) (Or.inl ⟨by rfl,?_⟩) ?_ ?_
 rotate_left
 ·intro w';go_simp;with_reducible rfl
 rotate_left
 ·simp only[Act.put,sZ0,sZ1,sZ2,i64_w,i32_w];rfl
 refine pure_ (i:=1) (N:=some 19) (v:=?_) (a':=?_) #[true,true,false,false,false,false,false,false,false,false,false,false,false,false,false,false,false,false,false,false,false] rfl rfl (by kernel_rfl) (fun _ _ _ h=>h) (Or.inl ⟨by rfl,?_⟩) ?_ ?_
 rotate_left
 ·intro w';go_simp;with_reducible rfl
 rotate_left
 ·simp only[Act.put,sZ0,sZ1,sZ2,i64_w,i32_w];rfl
 refine pure_ (i:=2) (N:=some 20) (v:=?_) (a':=?_) #[true,true,true,false,false,false,false,false,false,false,false,false,false,false,false,false,false,false,false,false,false] rfl rfl (by kernel_rfl) (fun _ _ _ h=>h) (Or.inl ⟨by rfl,?_⟩) ?_ ?_
 rotate_left
 ·intro w';go_simp;with_reducible rfl
 rotate_left
 ·simp only[Act.put,sZ0,sZ1,sZ2,i64_w,i32_w];rfl
 refine pure_ (i:=3) (N:=some 21) (v:=?_) (a':=?_) #[true,true,true,true,false,false,false,false,false,false,false,false,false,false,false,false,false,false,false,false,false] rfl rfl (by kernel_rfl) (fun _ _ _ h=>h) (Or.inl ⟨by rfl,?_⟩) ?_ ?_
 rotate_left
 ·intro w';go_simp;with_reducible rfl
 rotate_left
 ·simp only[Act.put,sZ0,sZ1,sZ2,i64_w,i32_w];rfl
 refine take_ (i:=4) (N:=some 22) (v:=?_) (a':=?_) #[true,true,true,true,true,false,false,false,false,false,false,false,false,false,false,false,false,false,false,false,false] rfl rfl (by kernel_rfl) (fun _ _ _ h=>h) (Or.inl ⟨by rfl,?_⟩) hHeld ?_ ?_
 rotate_left
 ·intro w' hS
  have hq:=hcell8 hs8'.out hS
  go_simp;with_reducible rfl
 rotate_left
 ·simp only[Act.put,sZ0,sZ1,sZ2,i64_w,i32_w];rfl
 refine pure_ (i:=5) (N:=some 23) (v:=?_) (a':=?_) #[true,true,true,true,true,true,false,false,false,false,false,false,false,false,false,false,false,false,false,false,false] rfl rfl (by kernel_rfl) (fun _ _ _ h=>h) (Or.inl ⟨by rfl,?_⟩) ?_ ?_
 rotate_left
 ·intro w';go_simp;with_reducible rfl
 rotate_left
 ·simp only[Act.put,sZ0,sZ1,sZ2,i64_w,i32_w];rfl
 refine pure_ (i:=6) (N:=some 24) (v:=?_) (a':=?_) #[true,true,true,true,true,true,true,false,false,false,false,false,false,false,false,false,false,false,false,false,false] rfl rfl (by kernel_rfl) (fun _ _ _ h=>h) (Or.inl ⟨by rfl,?_⟩) ?_ ?_
 rotate_left
 ·intro w';go_simp;with_reducible rfl
 rotate_left
 ·simp only[Act.put,sZ0,sZ1,sZ2,i64_w,i32_w];rfl
 refine pure_ (i:=7) (N:=some 25) (v:=?_) (a':=?_) #[true,true,true,true,true,true,true,true,false,false,false,false,false,false,false,false,false,false,false,false,false] rfl rfl (by kernel_rfl) (fun _ _ _ h=>h) (Or.inl ⟨by rfl,?_⟩) ?_ ?_
 rotate_left
 ·intro w';go_simp;with_reducible rfl
 rotate_left
 ·simp only[Act.put,sZ0,sZ1,sZ2,i64_w,i32_w];rfl
 refine take_ (i:=8) (N:=some 26) (v:=?_) (a':=?_) #[true,true,true,true,true,true,true,true,true,false,false,false,false,false,false,false,false,false,false,false,false] rfl rfl (by kernel_rfl) (fun _ _ _ h=>h) (Or.inl ⟨by rfl,?_⟩) hHeld ?_ ?_
 rotate_left
 ·intro w' hS
  have hq:=hcell8 hs8'.out hS
  go_simp;with_reducible rfl
 rotate_left
 ·simp only[Act.put,sZ0,sZ1,sZ2,i64_w,i32_w];rfl
 refine pure_ (i:=9) (N:=some 27) (v:=?_) (a':=?_) #[true,true,true,true,true,true,true,true,true,true,false,false,false,false,false,false,false,false,false,false,false] rfl rfl (by kernel_rfl) (fun _ _ _ h=>h) (Or.inl ⟨by rfl,?_⟩) ?_ ?_
 rotate_left
 ·intro w';go_simp;with_reducible rfl
 rotate_left
 ·simp only[Act.put,sZ0,sZ1,sZ2,i64_w,i32_w];rfl
 refine pure_ (i:=10) (N:=some 28) (v:=?_) (a':=?_) #[true,true,true,true,true,true,true,true,true,true,true,false,false,false,false,false,false,false,false,false,false] rfl rfl (by kernel_rfl) (fun _ _ _ h=>h) (Or.inl ⟨by rfl,?_⟩) ?_ ?_
 rotate_left
 ·intro w';go_simp;with_reducible rfl
 rotate_left
 ·simp only[Act.put,sZ0,sZ1,sZ2,i64_w,i32_w];rfl
 refine pure_ (i:=11) (N:=some 29) (v:=?_) (a':=?_) #[true,true,true,true,true,true,true,true,true,true,true,true,false,false,false,false,false,false,false,false,false] rfl rfl (by kernel_rfl) (fun _ _ _ h=>h) (Or.inl ⟨by rfl,?_⟩) ?_ ?_
 rotate_left
 ·intro w';go_simp;with_reducible rfl
 rotate_left
 ·simp only[Act.put,sZ0,sZ1,sZ2,i64_w,i32_w];rfl
 refine pure_ (i:=12) (N:=some 30) (v:=?_) (a':=?_) #[true,true,true,true,true,true,true,true,true,true,true,true,true,false,false,false,false,false,false,false,false] rfl rfl (by kernel_rfl) (fun _ _ _ h=>h) (Or.inl ⟨by rfl,?_⟩) ?_ ?_
 rotate_left
 ·intro w';go_simp;with_reducible rfl
 rotate_left
 ·simp only[Act.put,sZ0,sZ1,sZ2,i64_w,i32_w];rfl
 refine take_ (i:=13) (N:=some 31) (v:=?_) (a':=?_) #[true,true,true,true,true,true,true,true,true,true,true,true,true,true,false,false,false,false,false,false,false] rfl rfl (by kernel_rfl) (fun _ _ _ h=>h) (Or.inl ⟨by rfl,?_⟩) hHeld ?_ ?_
 rotate_left
 ·intro w' hS
  have hq:=hcell8 hs8'.out hS
  go_simp;with_reducible rfl
 rotate_left
 ·simp only[Act.put,sZ0,sZ1,sZ2,i64_w,i32_w];rfl
 refine pure_ (i:=14) (N:=some 32) (v:=?_) (a':=?_) #[true,true,true,true,true,true,true,true,true,true,true,true,true,true,true,false,false,false,false,false,false] rfl rfl (by kernel_rfl) (fun _ _ _ h=>h) (Or.inl ⟨by rfl,?_⟩) ?_ ?_
 rotate_left
 ·intro w';go_simp;with_reducible rfl
 rotate_left
 ·simp only[Act.put,sZ0,sZ1,sZ2,i64_w,i32_w];rfl
 refine pure_ (i:=15) (N:=some 33) (v:=?_) (a':=?_) #[true,true,true,true,true,true,true,true,true,true,true,true,true,true,true,true,false,false,false,false,false] rfl rfl (by kernel_rfl) (fun _ _ _ h=>h) (Or.inl ⟨by rfl,?_⟩) ?_ ?_
 rotate_left
 ·intro w';go_simp;with_reducible rfl
 rotate_left
 ·simp only[Act.put,sZ0,sZ1,sZ2,i64_w,i32_w];rfl
 refine pure_ (i:=16) (N:=some 34) (v:=?_) (a':=?_) #[true,true,true,true,true,true,true,true,true,true,true,true,true,true,true,true,true,false,false,false,false] rfl rfl (by kernel_rfl) (fun _ _ _ h=>h) (Or.inl ⟨by rfl,?_⟩) ?_ ?_
 rotate_left
 ·intro w';go_simp;with_reducible rfl
 rotate_left
 ·simp only[Act.put,sZ0,sZ1,sZ2,i64_w,i32_w];rfl
 refine one_ (i:=17) (N:=some 35) #[true,true,true,true,true,true,true,true,true,true,true,true,true,true,true,true,true,true,false,false,false] rfl rfl (by kernel_rfl) (by decide) (fun K hK=>?_)
 obtain ⟨A1,c1,w1,hrun,hC1,hc1,hb1,hA1⟩:=append_full (w:=w.drew) (cb:=cb) 23 (hat'.out.rd.keep (Chg.refl g w).drew).toC (hm'.out.keep (Chg.refl g w).drew).toC hlen'.out
 refine value_ (w1:=w1) (v:=.slice A1 (l++m).length c1) (by rfl) rfl (exec_append _ (.tmp 33) (.tmp 34) 23 23 (by rfl) (.slice A l.length l.length) (.slice B m.length cb) (by rfl) (by rfl) (by exact hrun)) ?_
 refine hK.out _ _ (heap_below hHeld hb1) (fun hHeld=>?_)
 clear hK K;refine norm_ (a':=?_) ?_ ?_
 rotate_left
 ·show Act.put _ (some 35) _=_
  simp only[Act.put,sZ0,sZ1,sZ2,i64_w,i32_w];rfl
 refine pure_ (i:=18) (N:=some 36) (v:=?_) (a':=?_) #[true,true,true,true,true,true,true,true,true,true,true,true,true,true,true,true,true,true,true,false,false] rfl rfl (by kernel_rfl) (fun _ _ _ h=>h) (Or.inl ⟨by rfl,?_⟩) ?_ ?_
 rotate_left
 ·intro w';go_simp;with_reducible rfl
 rotate_left
 ·simp only[Act.put,sZ0,sZ1,sZ2,i64_w,i32_w];rfl
 refine pure_ (i:=19) (N:=some 37) (v:=?_) (a':=?_) #[true,true,true,true,true,true,true,true,true,true,true,true,true,true,true,true,true,true,true,true,false] rfl rfl (by kernel_rfl) (fun _ _ _ h=>h) (Or.inl ⟨by rfl,?_⟩) ?_ ?_
 rotate_left
 ·intro w';go_simp;with_reducible rfl
 rotate_left
 ·simp only[Act.put,sZ0,sZ1,sZ2,i64_w,i32_w];rfl
 refine last_ (i:=20) (N:=none) #[true,true,true,true,true,true,true,true,true,true,true,true,true,true,true,true,true,true,true,true,true] rfl rfl (by kernel_rfl) (by decide) (fun K hK=>?_)
 have hq:=hcell8 hs8'.out hHeld
 have hf:=hfree hHeld 8
 refine skip_ (w1:=w1.setCell ⟨g,8,none⟩ (.slice A1 (l++m).length c1)) (by rfl) rfl (by go_simp;done) ?_
 refine hK.out _ _ ?_
 have hR1:Rd w1 g A1 (l++m):=by
  rcases hA1 with ⟨rfl,rfl⟩ | rfl
  ·rw[List.append_nil];exact hat'.out.rd.keep ((Chg.refl g w).drew.trans (Chg.of_below hb1))
  exact Rd.ofC hC1 (fun ad e=>by obtain rfl:=Option.some.inj e;exact Nat.ne_of_gt (lt_of_heap hat'.out.obj))
 have hobj2:=hset8 hs8'.out hHeld (.slice A1 (l++m).length c1)
 have hchg2:Chg g w (w1.setCell ⟨g,8,none⟩ (.slice A1 (l++m).length c1)):=((Chg.refl g w).drew.trans (Chg.of_below hb1)).setCell _ _
 have hR2:Rd (w1.setCell ⟨g,8,none⟩ (.slice A1 (l++m).length c1)) g A1 (l++m):=hR1.keep ((Chg.refl g w1).setCell _ _)
 obtain ⟨w2,hw2⟩:∃ w2,w2=w1.setCell ⟨g,8,none⟩ (.slice A1 (l++m).length c1):=⟨_,rfl⟩
 rw[← hw2] at hobj2 hchg2 hR2 ⊢
 clear hK K;refine done_ (by kernel_rfl) ?_
 clear hw2 hHeld hq hf hrun hR1 hA1 hb1 hcut hcapi
 have hd9:=hcell9 hs8'.out hobj2
 have hf9:=hfree hobj2 9
 have hwr:IntKind.i64.wrap (n+(m.length:Int))=n+m.length:=by rw[IntKind.wrap_i64];omega
 obtain ⟨L,hL⟩:∃ L,L=l++m:=⟨_,rfl⟩
 rw[← hL] at hobj2 hR2 hc1
 have hat3:HashAt (w2.setCell ⟨g,9,none⟩ (.int .i64 (n+m.length))) g S A1 c1 L (n+m.length) true:=⟨hs8'.out,hset9 hs8'.out hobj2 _,hR2.keep ((Chg.refl g w2).setCell _ _),hc1⟩
 have hat3':=Lib.hid hat3
 have hL':=Lib.hid hL
 have hchg2':=Lib.hid hchg2
 clear hobj2 hR2 hc1 hC1 hat3 hL hchg2
 go_wp2_with (go_at_call 97;refine (blocks_any _ g S A1 c1 L _ true hat3'.out).mono ?_;rintro e w4 ⟨rfl,A4,c4,hat4,hchg4⟩)
 go_end0
 exact ⟨rfl,A4,c4,by rw[← hL'.out];exact hat4,(hchg2'.out.setCell _ _).trans hchg4⟩
end Go.Proofs.Ytbajioiiaamokaa.Own
