/- RdA, pruned (slim.py). -/
import Derived.Test.YtbajioiiaamokaaZB30
import Derived.Deep.DeepCutAuto
namespace Go.Proofs.Ytbajioiiaamokaa.Own
open Go.RowKit Go.Proofs.Ytbajioiiaamokaa.Arr Go.Proofs.Ytbajioiiaamokaa.QB Go.Proofs.YtbajioiiaamokaaW.PrintWords Go.Proofs.YtbajioiiaamokaaW.PrintLast Go.Proofs.YtbajioiiaamokaaW.PrintMore
set_option linter.unusedVariables false
set_option linter.unusedSimpArgs false
attribute [-go_sem] Instr.build
theorem cutB (A:Option Addr) (n c lo hi:Nat) (xs:List Int) (h1:lo≤hi) (h2:hi≤n) (h3:n≤c) :
  ∃ A':Option Addr,(∀ W:World,(Instr.slice 23 (.slice A n c) (some (.int .i64 (lo:Int))) (some (.int .i64 (hi:Int))) none).run Try.prog W=.ok (.slice A' (hi - lo) (c - lo)) W)∧∀ w:World,Kd.C (Kd.int .u8) w A n xs→Kd.C (Kd.int .u8) w A' (hi - lo) ((xs.take hi).drop lo):=by
 obtain ⟨i0,hi0,_,hs,_⟩:=info_parts info5
 obtain ⟨A',h4,h5⟩:=cut2 (P:=Try.prog) 23 5 .i64 .i64 .u8 Try.underlying23 hi0 hs A n c lo hi xs h1 h2 h3
 exact ⟨A',h4,fun w h=>C_of_readsInt (h5 w (readsInt_of_C h))⟩
theorem cutF (A:Option Addr) (n c lo:Nat) (xs:List Int) (h2:lo≤n) (h3:n≤c) :
  ∃ A':Option Addr,(∀ W:World,(Instr.slice 23 (.slice A n c) (some (.int .i64 (lo:Int))) none none).run Try.prog W=.ok (.slice A' (n - lo) (c - lo)) W)∧∀ w:World,Kd.C (Kd.int .u8) w A n xs→Kd.C (Kd.int .u8) w A' (n - lo) (xs.drop lo):=by
 refine ⟨if c=lo then A else A.map (·.add lo),fun W=>cut_from A n c lo h2 W,fun w h=>?_⟩
 exact C_of_readsInt ((readsInt_of_C h).drop_ lo h2 h3)
theorem part_len (l:List Int) (lo hi:Nat) (h:hi≤l.length):((l.take hi).drop lo).length=hi - lo:=by
 rw[List.length_drop,List.length_take];omega
theorem part_mem {l:List Int} {lo hi:Nat} {P:Int→Prop} (h:∀ x ∈ l,P x):∀ x ∈ (l.take hi).drop lo,P x:=fun x hx=>h x (List.mem_of_mem_take (List.mem_of_mem_drop hx))
theorem numCut (A:Option Addr) (c:Nat) (l:List Int) (hb:∀ x ∈ l,byt x) (lo hi:Nat) (h1:lo≤hi) (h2:hi≤l.length) (h3:l.length≤c) (h8:hi - lo≤8) :
  ∃ A':Option Addr,(∀ W:World,(Instr.slice 23 (.slice A l.length c) (some (.int .i64 (lo:Int))) (some (.int .i64 (hi:Int))) none).run Try.prog W=.ok (.slice A' (hi - lo) (c - lo)) W)∧∀ W:World,Kd.C (Kd.int .u8) W A l.length l→Calls Try.prog 49 #[.slice A' (hi - lo) (c - lo)] W fun e w'=>e=.returned (.int .u64 (valL ((l.take hi).drop lo)))∧Drawn0 W w':=by
 obtain ⟨A',h4,h5⟩:=cutB A l.length c lo hi l h1 h2 h3
 refine ⟨A',h4,fun W hC=>?_⟩
 have hl:=part_len l lo hi h2
 have:=octet_Num.calls A' (c - lo) ((l.take hi).drop lo) (valL ((l.take hi).drop lo)) W (by rw[hl];exact h5 W hC) (by rw[hl];omega) (num_eq _ (by rw[hl];exact h8) (part_mem hb))
 rw[hl] at this
 exact this
theorem numTo (A:Option Addr) (c:Nat) (l:List Int) (hb:∀ x ∈ l,byt x) (hi:Nat) (h2:hi≤l.length) (h3:l.length≤c) (h8:hi≤8) (W:World) (hC:Kd.C (Kd.int .u8) W A l.length l) :
  Calls Try.prog 49 #[.slice A hi c] W fun e w'=>e=.returned (.int .u64 (valL (l.take hi)))∧Drawn0 W w':=by
 have hl:(l.take hi).length=hi:=by rw[List.length_take];omega
 have:=octet_Num.calls A c (l.take hi) (valL (l.take hi)) W (by rw[hl];exact C_take hC hi h2) (by rw[hl];omega) (num_eq _ (by rw[hl];exact h8) (fun x hx=>hb x (List.mem_of_mem_take hx)))
 rw[hl] at this
 exact this
theorem fill128:octet_Fill.f 200 0 128=some (zL 128):=by decide +kernel
theorem zL_len (n:Nat):(zL n).length=n:=by simp[zL]
theorem zL_byt (n:Nat):∀ x ∈ zL n,byt x:=by intro x hx;rw[zL,List.mem_replicate] at hx;rw[hx.2];exact ⟨by omega,by omega⟩
section
variable {ops:Array Oper} {Q:Exit→Act→World→Prop} {oi:Oper} {N:Option Tmp} {a:Act} {w:World} {K:Act→World→Prop}
theorem step_append0 (base:Nat) (x y:Operand) (T:TypeId) (v:Value) (src:Value) (m:List Int) (hw:Region.wanted oi (yielded ops a.tmps)=true) (hN:oi.dst=N) (ho:oi.op=.call { callee:=.builtin .append,args:=#[x,y],argTypes:=#[23,T] })
  (hx:a.eval x=v) (hy:a.eval y=src) (hsrc:Src Try.prog 1 T src m.length (m.map (Value.int .u8)) w) (hown:w.ownsRow base 5 1 v ([]:List Int).length (nums .u8 [])) (hbase:base≤w.heap.size) (hb:m.length≤70368744177664)
  (h:∀ A c w1,w1.ownsRow base 5 1 (.slice A m.length c) m.length (nums .u8 m)→w.grownBy w1 v.ownBlock→(∀ B w0,B≤base→Below B w0 w→Below B w0 w1)→K (a.put N (.slice A m.length c)) w1) :
  if Region.wanted oi (yielded ops a.tmps)=true then Oper.wp Try.prog oi a w K Q else K (a.put N undef) w:=
 step_append base x y T v [] src m hw hN ho hx hy hsrc hown hbase (by simpa using hb) h
end
theorem size5':(Try.prog.info? 5).map (·.size)=some 1:=by kernel_rfl
def SlRes (w:World) (o:Option SlT) (e:Ending) (w':World):Prop:=
 ∃ A c,e=.returned (.tuple #[.agg (slcl (o.getD slZero) A c).toArray,.int .i64 (if o.isSome then 0 else 1)])∧w'.ownsRow w.heap.size 5 1 (.slice A (o.getD slZero).wrap.length c) (o.getD slZero).wrap.length (nums .u8 (o.getD slZero).wrap)∧Below w.heap.size w w'
def SlMid (w:World) (x:SlT) (v:Value) (w':World):Prop:=
 ∃ g A c,v=.pointer (some ⟨g,0,none⟩)∧w'.heap[g]?=some (.cells (slcl x A c).toArray 25 (0,0))∧w'.ownsRow w.heap.size 5 1 (.slice A x.wrap.length c) x.wrap.length (nums .u8 x.wrap)∧w.heap.size<g∧w'.heap[w.heap.size]?=some (.cells zSl 25 (0,0))∧Below w.heap.size w w'
set_option maxHeartbeats 8000000 in
set_option maxRecDepth 100000 in
theorem slotRead_any (A:Option Addr) (c:Nat) (l:List Int) (hl:l.length=128) (hc:128≤c) (hb:∀ x ∈ l,byt x) (w:World) (hC:Kd.C (Kd.int .u8) w A l.length l) :
  Calls Try.prog 50 #[.slice A 128 c] w (SlRes w (slRead l)):=by
 obtain ⟨hz,-⟩:=zero_of_info (P:=Try.prog) infoSl
 have hb0:∀ W:World,(Instr.build 25 #[]).run Try.prog W=.ok (.agg zSl) W:=fun W=>run_build W _ _ _ builtSl0
 obtain ⟨Z,hZ⟩:∃ Z:Array Value,Z=zSl:=⟨_,rfl⟩
 have hszZ:=Lib.hid (show (Try.prog.info? 25).map (·.size)=some Z.size by rw[hZ];exact szSl)
 have honeZ:=Lib.hid (show Z.all (·.oneCell')=true by rw[hZ];exact slcl_one _ _ _)
 rw[← hZ] at hz hb0
 have hZ':=Lib.hid hZ
 have hfill:=Lib.hid (fun W:World=>octet_Fill.calls 200 0 128 (zL 128) W fill128)
 have hsame:=Lib.hid (fun (W:World) (Af:Option Addr) (cf:Nat) (h1:Below w.heap.size w W) (h2:Kd.C (Kd.int .u8) W Af (zL 128).length (zL 128)) (h3:(zL 128).length≤cf)=>
  show Calls Try.prog 48 #[.slice A 128 c,.slice Af (zL 128).length cf] W (fun e w'=>e=.returned (.bool (decide (l=zL 128)))∧Drawn0 W w') from by
   have:=octet_Same.calls (0+l.length+1) A c l Af cf (zL 128) (decide (l=zL 128)) W (Kd.C_below hC h1) (by omega) h2 h3 (octSame_eq l (zL 128) (by omega) hb (zL_byt _) 0)
   rw[hl] at this
   exact this)
 have hg0:=Lib.hid (heap_alloc_last w (.cells Z 25 (0,0)))
 have hbw0:=Lib.hid (show Below w.heap.size w (w.alloc (.cells Z 25 (0,0))) from (Below.refl _ _).alloc (Nat.le_refl _) _)
 by_cases h0:l=zL 128
 ·have hfin:slRead l=some slZero:=by unfold slRead;rw[if_pos h0]
  rw[hfin]
  rw[decide_eq_true h0] at hsame
  clear h0 hfin hZ hl hC hb
  go_enter Try.func50,Try.ntmps50
  go_wp2_with (first
   |((with_reducible go_at_call 41);refine (hfill.out _).mono ?_;rintro e w1 ⟨v1,rfl,hR,hbl⟩;obtain ⟨Af,cf,rfl⟩:=Kd.R_slice hR;obtain ⟨-,hcf,hCf⟩:=Kd.R_reads' hR;have b1:=Lib.hid (below_step hbw0.out hbl);have g1:=Lib.hid (heap_below hg0.out hbl);have hcf':=Lib.hid hcf;have hCf':=Lib.hid hCf;clear hR hbl hcf hCf)
   |((with_reducible go_at_call 48);refine (hsame.out _ _ _ b1.out hCf'.out hcf'.out).mono ?_;rintro e w2 ⟨rfl,hd⟩;have b2:=Lib.hid (below_step b1.out (drawn_below hd));have g2:=Lib.hid (heap_below g1.out (drawn_below hd));clear hd)
   |(with_reducible refine wpList_store_row rfl 25 _ _ rfl w.heap.size Z rfl rfl 25 Z g2.out hszZ.out rfl honeZ.out ?_))
  have hq:=setRow_heap w2 w.heap.size Z Z 25 (0,0) g2.out
  refine bodyPost_ret (v:=.tuple #[.agg Z,.int .i64 0]) (results_ct rfl _ _ w.heap.size 25 _ (0,0) _ (by rfl) hq Try.underlying25 rfl hszZ.out (by rfl)) rfl ?_
  exact ⟨none,0,by rw[hZ'.out];rfl,World.ownsRow_nil _ _ _ _,below_setRow b2.out (Nat.le_refl _) _⟩
 rw[decide_eq_false h0] at hsame
 have hl':=Lib.hid hl
 have hC':=Lib.hid hC
 have hb':=Lib.hid hb
 have h0':=Lib.hid h0
 clear hl hC hb h0 hZ
 go_enter Try.func50,Try.ntmps50
 go_wp2_with (first
  |((with_reducible go_at_call 41);refine (hfill.out _).mono ?_;rintro e w1 ⟨v1,rfl,hR,hbl⟩;obtain ⟨Af,cf,rfl⟩:=Kd.R_slice hR;obtain ⟨-,hcf,hCf⟩:=Kd.R_reads' hR;have b1:=Lib.hid (below_step hbw0.out hbl);have g1:=Lib.hid (heap_below hg0.out hbl);have hcf':=Lib.hid hcf;have hCf':=Lib.hid hCf;clear hR hbl hcf hCf)
  |((with_reducible go_at_call 48);refine (hsame.out _ _ _ b1.out hCf'.out hcf'.out).mono ?_;rintro e w2 ⟨rfl,hd⟩;have b2:=Lib.hid (below_step b1.out (drawn_below hd));have g2:=Lib.hid (heap_below g1.out (drawn_below hd));clear hd))
 clear b1 g1 hCf' hcf' hfill hsame hg0 hbw0
 have hl:=hl'.out
 obtain ⟨A4,hs4,hn4⟩:=numCut A c l hb'.out 4 8 (by omega) (by omega) (by omega) (by omega)
 obtain ⟨A8,hs8,hn8⟩:=numCut A c l hb'.out 8 16 (by omega) (by omega) (by omega) (by omega)
 obtain ⟨A16,hs16,hn16⟩:=numCut A c l hb'.out 16 24 (by omega) (by omega) (by omega) (by omega)
 obtain ⟨A24,hs24,hc24⟩:=cutF A l.length c 24 l (by omega) (by omega)
 have hv4:=val_bound 4 ((l.take 8).drop 4) (part_len l 4 8 (by omega)) (part_mem hb'.out)
 have hrd:rdSl l=⟨true,valL ((l.take 8).drop 4),valL ((l.take 16).drop 8),valL ((l.take 24).drop 16),l.drop 24⟩:=rfl
 obtain ⟨V4,hV4⟩:∃ V,V=valL ((l.take 8).drop 4):=⟨_,rfl⟩
 obtain ⟨V8,hV8⟩:∃ V,V=valL ((l.take 16).drop 8):=⟨_,rfl⟩
 obtain ⟨V16,hV16⟩:∃ V,V=valL ((l.take 24).drop 16):=⟨_,rfl⟩
 obtain ⟨L24,hL24⟩:∃ V,V=l.drop 24:=⟨_,rfl⟩
 have hL24l:L24.length=104:=by rw[hL24,List.length_drop,hl]
 have hL24b:∀ x ∈ L24,byt x:=by rw[hL24];exact fun x hx=>hb'.out x (List.mem_of_mem_drop hx)
 rw[← hV4] at hn4 hv4 hrd
 rw[← hV8] at hn8 hrd
 rw[← hV16] at hn16 hrd
 rw[← hL24] at hc24 hrd
 have v40:0≤V4:=hv4.1
 have v41:V4≤4294967295:=by have:=hv4.2;have e:(256:Int) ^ 4=4294967296:=(by decide);omega
 clear hV4 hV8 hV16 hL24 hv4
 rw[hl] at hs4 hs8 hs16 hs24
 have s4:=Lib.hid (show ∀ W:World,(Instr.slice 23 (.slice A 128 c) (some (.int .i64 4)) (some (.int .i64 8)) none).run Try.prog W=.ok (.slice A4 4 (c - 4)) W from hs4)
 have s8:=Lib.hid (show ∀ W:World,(Instr.slice 23 (.slice A 128 c) (some (.int .i64 8)) (some (.int .i64 16)) none).run Try.prog W=.ok (.slice A8 8 (c - 8)) W from hs8)
 have s16:=Lib.hid (show ∀ W:World,(Instr.slice 23 (.slice A 128 c) (some (.int .i64 16)) (some (.int .i64 24)) none).run Try.prog W=.ok (.slice A16 8 (c - 16)) W from hs16)
 have s24:=Lib.hid (show ∀ W:World,(Instr.slice 23 (.slice A 128 c) (some (.int .i64 24)) none none).run Try.prog W=.ok (.slice A24 104 (c - 24)) W from hs24)
 have n4:=Lib.hid (fun (W:World) (h:Below w.heap.size w W)=>show Calls Try.prog 49 #[.slice A4 4 (c - 4)] W _ from hn4 W (Kd.C_below hC'.out h))
 have n8:=Lib.hid (fun (W:World) (h:Below w.heap.size w W)=>show Calls Try.prog 49 #[.slice A8 8 (c - 8)] W _ from hn8 W (Kd.C_below hC'.out h))
 have n16:=Lib.hid (fun (W:World) (h:Below w.heap.size w W)=>show Calls Try.prog 49 #[.slice A16 8 (c - 16)] W _ from hn16 W (Kd.C_below hC'.out h))
 have hsrc:=Lib.hid (fun (W:World) (h:Below w.heap.size w W)=>show Src Try.prog 1 23 (.slice A24 104 (c - 24)) L24.length (L24.map (Value.int .u8)) W from by
  have:=src_of_C (c:=c - 24) (l:=L24) (A:=A24) (w:=W) (by have:=hc24 W (Kd.C_below hC'.out h);rw[hl] at this;rw[hL24l];exact this)
  rw[hL24l] at this
  rw[hL24l]
  exact this)
 obtain ⟨X,hX⟩:∃ X,X=rdSl l:=⟨_,rfl⟩
 have hXl:=Lib.hid (show X.wrap=L24 by rw[hX,hrd])
 obtain ⟨G,hG⟩:∃ G:Option Addr→Nat→Array Value,G=fun A c=>(slcl X A c).toArray:=⟨_,rfl⟩
 have hGb:=Lib.hid (show ∀ (A:Option Addr) (k:Nat) (W:World),(Instr.build 25 #[(0,.bool true),(1,.int .i64 (wrap64 V4)),(2,.int .u64 V8),(3,.int .u64 V16),(4,.slice A L24.length k)]).run Try.prog W=.ok (.agg (G A k)) W from fun A k W=>by rw[hG,hX,hrd,w64 V4 (by omega) (by omega)];exact run_build W _ _ _ (builtSl true V4 V8 V16 A L24.length k))
 have hGs:=Lib.hid (show ∀ A k,(Try.prog.info? 25).map (·.size)=some (G A k).size by rw[hG];intro A k;exact szSl)
 have hGo:=Lib.hid (show ∀ A k,(G A k).all (·.oneCell')=true by rw[hG];intro A k;exact slcl_one _ _ _)
 have hGZ:=Lib.hid (show ∀ A k,Z.size=(G A k).size by rw[hG,hZ'.out];intro A k;rfl)
 have hG':=Lib.hid hG
 have hX':=Lib.hid hX
 have hl24:=Lib.hid hL24l
 clear hs4 hs8 hs16 hs24 hn4 hn8 hn16 hc24 hrd hL24l hL24b hX hG hl
 go_cut [4] (fun v w'=>SlMid w X v w')
 case first=>
  refine start_ (n:=17) (S:=fun w'=>Below w.heap.size w w'∧w'.heap[w.heap.size]?=some (.cells Z 25 (0,0))) (ds:=[16]) #[false,false,false,false,false,false,false,false,false,false,false,false,false,false,false,false,false] (by kernel_rfl) rfl rfl (by exact ⟨below_drew b2.out,g2.out⟩) (fun hHeld=>?_)
  refine pure_ (i:=0) (N:=some 13) (v:=?_) (a':=?_) #[true,false,false,false,false,false,false,false,false,false,false,false,false,false,false,false,false] rfl rfl (by kernel_rfl) (fun _ _ _ h=>h) (Or.inl ⟨by rfl,?_⟩) ?_ ?_
  rotate_left
  ·intro w';go_simp;with_reducible rfl
  rotate_left
  ·simp only[Act.put,sZ0,sZ1,sZ2,i64_w,i32_w];rfl
  refine pure_ (i:=1) (N:=some 14) (v:=?_) (a':=?_) #[true,true,false,false,false,false,false,false,false,false,false,false,false,false,false,false,false] rfl rfl (by kernel_rfl) (fun _ _ _ h=>h) (Or.inl ⟨by rfl,?_⟩) ?_ ?_
  rotate_left
  ·intro w'
   refine (exec_slice_lh w' 23 _ Try.underlying23 _ _ _ (by rfl) (.slice A 128 c) (.int .i64 4) (.int .i64 8) _ (by rfl) (by rfl) (by rfl) (s4.out w')).trans ?_;with_reducible rfl
  rotate_left
  ·simp only[Act.put,sZ0,sZ1,sZ2,i64_w,i32_w];rfl
  refine pure_ (i:=4) (N:=some 17) (v:=?_) (a':=?_) #[true,true,false,false,true,false,false,false,false,false,false,false,false,false,false,false,false] rfl rfl (by kernel_rfl) (fun _ _ _ h=>h) (Or.inl ⟨by rfl,?_⟩) ?_ ?_
  rotate_left
  ·intro w';go_simp;with_reducible rfl
  rotate_left
  ·simp only[Act.put,sZ0,sZ1,sZ2,i64_w,i32_w];rfl
  refine pure_ (i:=5) (N:=some 18) (v:=?_) (a':=?_) #[true,true,false,false,true,true,false,false,false,false,false,false,false,false,false,false,false] rfl rfl (by kernel_rfl) (fun _ _ _ h=>h) (Or.inl ⟨by rfl,?_⟩) ?_ ?_
  rotate_left
  ·intro w'
   refine (exec_slice_lh w' 23 _ Try.underlying23 _ _ _ (by rfl) (.slice A 128 c) (.int .i64 8) (.int .i64 16) _ (by rfl) (by rfl) (by rfl) (s8.out w')).trans ?_;with_reducible rfl
  rotate_left
  ·simp only[Act.put,sZ0,sZ1,sZ2,i64_w,i32_w];rfl
  refine pure_ (i:=7) (N:=some 20) (v:=?_) (a':=?_) #[true,true,false,false,true,true,false,true,false,false,false,false,false,false,false,false,false] rfl rfl (by kernel_rfl) (fun _ _ _ h=>h) (Or.inl ⟨by rfl,?_⟩) ?_ ?_
  rotate_left
  ·intro w';go_simp;with_reducible rfl
  rotate_left
  ·simp only[Act.put,sZ0,sZ1,sZ2,i64_w,i32_w];rfl
  refine pure_ (i:=8) (N:=some 21) (v:=?_) (a':=?_) #[true,true,false,false,true,true,false,true,true,false,false,false,false,false,false,false,false] rfl rfl (by kernel_rfl) (fun _ _ _ h=>h) (Or.inl ⟨by rfl,?_⟩) ?_ ?_
  rotate_left
  ·intro w'
   refine (exec_slice_lh w' 23 _ Try.underlying23 _ _ _ (by rfl) (.slice A 128 c) (.int .i64 16) (.int .i64 24) _ (by rfl) (by rfl) (by rfl) (s16.out w')).trans ?_;with_reducible rfl
  rotate_left
  ·simp only[Act.put,sZ0,sZ1,sZ2,i64_w,i32_w];rfl
  refine pure_ (i:=11) (N:=some 24) (v:=?_) (a':=?_) #[true,true,false,false,true,true,false,true,true,false,false,true,false,false,false,false,false] rfl rfl (by kernel_rfl) (fun _ _ _ h=>h) (Or.inl ⟨by rfl,?_⟩) ?_ ?_
  rotate_left
  ·intro w';go_simp;with_reducible rfl
  rotate_left
  ·simp only[Act.put,sZ0,sZ1,sZ2,i64_w,i32_w];rfl
  refine pure_ (i:=12) (N:=some 25) (v:=?_) (a':=?_) #[true,true,false,false,true,true,false,true,true,false,false,true,true,false,false,false,false] rfl rfl (by kernel_rfl) (fun _ _ _ h=>h) (Or.inl ⟨by rfl,?_⟩) ?_ ?_
  rotate_left
  ·intro w'
   refine (exec_slice_l w' 23 _ Try.underlying23 _ _ (by rfl) (.slice A 128 c) (.int .i64 24) _ (by rfl) (by rfl) (s24.out w')).trans ?_;with_reducible rfl
  rotate_left
  ·simp only[Act.put,sZ0,sZ1,sZ2,i64_w,i32_w];rfl
  refine three_ (i:=2) (Ni:=some 15) (j:=10) (Nj:=some 23) (k:=15) (Nk:=some 4) #[true,true,true,false,true,true,false,true,true,false,false,true,true,false,false,false,false] #[true,true,false,false,true,true,false,true,true,false,true,true,true,false,false,false,false] #[true,true,false,false,true,true,false,true,true,false,false,true,true,false,false,true,false] rfl rfl rfl (by kernel_rfl) rfl rfl rfl (by decide) (by decide) (by decide) (fun K hK=>?_) (fun K hK=>?_) (fun K hK=>?_)
  ·skip
   refine goes_ Try.func49 (by kernel_rfl) rfl #[.slice A4 4 (c - 4)] (by rfl) rfl rfl (by (try simp only[List.map_toArray,List.map_cons,List.map_nil]);first | done | rfl) ?_
   refine (n4.out _ hHeld.1).mono ?_
   rintro e wn ⟨rfl,hd⟩
   have hb:=drawn_below hd
   refine ⟨_,rfl,?_⟩
   refine hK.out _ _ ⟨below_step hHeld.1 hb,heap_below hHeld.2 hb⟩ (fun hHeld=>?_)
   (try have hE:=Lib.hid (own_move hE.out (fun k hk=>hb.block k (hE.out.lt k hk).2)))
   (try have hA:=Lib.hid (heap_below hA.out hb))
   clear hb hd
   clear hK K;refine norm_ (a':=?_) ?_ ?_
   rotate_left
   ·show Act.put _ (some 15) _=_
    simp only[Act.put,sZ0,sZ1,sZ2,i64_w,i32_w];rfl
   refine pure_ (i:=3) (N:=some 16) (v:=?_) (a':=?_) #[true,true,true,true,true,true,false,true,true,false,false,true,true,false,false,false,false] rfl rfl (by kernel_rfl) (fun _ _ _ h=>h) (Or.inl ⟨by rfl,?_⟩) ?_ ?_
   rotate_left
   ·intro w';go_simp;with_reducible rfl
   rotate_left
   ·simp only[Act.put,sZ0,sZ1,sZ2,i64_w,i32_w];rfl
   refine three_ (i:=6) (Ni:=some 19) (j:=10) (Nj:=some 23) (k:=15) (Nk:=some 4) #[true,true,true,true,true,true,true,true,true,false,false,true,true,false,false,false,false] #[true,true,true,true,true,true,false,true,true,false,true,true,true,false,false,false,false] #[true,true,true,true,true,true,false,true,true,false,false,true,true,false,false,true,false] rfl rfl rfl (by kernel_rfl) rfl rfl rfl (by decide) (by decide) (by decide) (fun K hK=>?_) (fun K hK=>?_) (fun K hK=>?_)
   ·skip
    refine goes_ Try.func49 (by kernel_rfl) rfl #[.slice A8 8 (c - 8)] (by rfl) rfl rfl (by (try simp only[List.map_toArray,List.map_cons,List.map_nil]);first | done | rfl) ?_
    refine (n8.out _ hHeld.1).mono ?_
    rintro e wn ⟨rfl,hd⟩
    have hb:=drawn_below hd
    refine ⟨_,rfl,?_⟩
    refine hK.out _ _ ⟨below_step hHeld.1 hb,heap_below hHeld.2 hb⟩ (fun hHeld=>?_)
    (try have hE:=Lib.hid (own_move hE.out (fun k hk=>hb.block k (hE.out.lt k hk).2)))
    (try have hA:=Lib.hid (heap_below hA.out hb))
    clear hb hd
    clear hK K;refine norm_ (a':=?_) ?_ ?_
    rotate_left
    ·show Act.put _ (some 19) _=_
     simp only[Act.put,sZ0,sZ1,sZ2,i64_w,i32_w];rfl
    refine three_ (i:=9) (Ni:=some 22) (j:=10) (Nj:=some 23) (k:=15) (Nk:=some 4) #[true,true,true,true,true,true,true,true,true,true,false,true,true,false,false,false,false] #[true,true,true,true,true,true,true,true,true,false,true,true,true,false,false,false,false] #[true,true,true,true,true,true,true,true,true,false,false,true,true,false,false,true,false] rfl rfl rfl (by kernel_rfl) rfl rfl rfl (by decide) (by decide) (by decide) (fun K hK=>?_) (fun K hK=>?_) (fun K hK=>?_)
    ·skip
     refine goes_ Try.func49 (by kernel_rfl) rfl #[.slice A16 8 (c - 16)] (by rfl) rfl rfl (by (try simp only[List.map_toArray,List.map_cons,List.map_nil]);first | done | rfl) ?_
     refine (n16.out _ hHeld.1).mono ?_
     rintro e wn ⟨rfl,hd⟩
     have hb:=drawn_below hd
     refine ⟨_,rfl,?_⟩
     refine hK.out _ _ ⟨below_step hHeld.1 hb,heap_below hHeld.2 hb⟩ (fun hHeld=>?_)
     (try have hE:=Lib.hid (own_move hE.out (fun k hk=>hb.block k (hE.out.lt k hk).2)))
     (try have hA:=Lib.hid (heap_below hA.out hb))
     clear hb hd
     clear hK K;refine norm_ (a':=?_) ?_ ?_
     rotate_left
     ·show Act.put _ (some 22) _=_
      simp only[Act.put,sZ0,sZ1,sZ2,i64_w,i32_w];rfl
     refine two_ (i:=10) (Ni:=some 23) (j:=15) (Nj:=some 4) #[true,true,true,true,true,true,true,true,true,true,true,true,true,false,false,false,false] #[true,true,true,true,true,true,true,true,true,true,false,true,true,false,false,true,false] rfl rfl rfl rfl (by kernel_rfl) (by decide) (by decide) (fun K hK=>?_) (fun K hK=>?_)
     ·skip
      refine step_empty 23 5 (by rfl) rfl (by rfl) Try.underlying23 size5' ?_
      intro gE wn hE0 hb
      have hE:=Lib.hid (own_less hE0 hHeld.1.size)
      refine hK.out _ _ ⟨below_step hHeld.1 hb,heap_below hHeld.2 hb⟩ (fun hHeld=>?_)
      (try have hA:=Lib.hid (heap_below hA.out hb))
      clear hb hE0
      clear hK K;refine norm_ (a':=?_) ?_ ?_
      rotate_left
      ·show Act.put _ (some 23) _=_
       simp only[Act.put,sZ0,sZ1,sZ2,i64_w,i32_w];rfl
      refine two_ (i:=13) (Ni:=some 26) (j:=15) (Nj:=some 4) #[true,true,true,true,true,true,true,true,true,true,true,true,true,true,false,false,false] #[true,true,true,true,true,true,true,true,true,true,true,true,true,false,false,true,false] rfl rfl rfl rfl (by kernel_rfl) (by decide) (by decide) (fun K hK=>?_) (fun K hK=>?_)
      ·skip
       refine step_append0 w.heap.size (.tmp 23) (.tmp 25) 23 (.slice (some ⟨gE,0,none⟩) 0 0) (.slice A24 104 (c - 24)) L24 (by rfl) rfl (by rfl) (by rfl) (by rfl) (hsrc.out _ hHeld.1) hE.out hHeld.1.size (by have:=hl24.out;omega) ?_
       intro AX cX wn hR0 hgr hbg
       (try have hA:=Lib.hid (blk_grown hA.out hgr (fun e=>own_ne hE.out hA.out (by decide) _ e.symm rfl)))
       refine hK.out _ _ ⟨hbg _ _ (Nat.le_refl _) hHeld.1,blk_grown hHeld.2 hgr (fun e=>own_ne hE.out hHeld.2 (by decide) _ e.symm rfl)⟩ (fun hHeld=>?_)
       have hR:=Lib.hid hR0
       clear hgr hbg hR0
       clear hK K;refine norm_ (a':=?_) ?_ ?_
       rotate_left
       ·show Act.put _ (some 26) _=_
        simp only[Act.put,sZ0,sZ1,sZ2,i64_w,i32_w];rfl
       refine pure_ (i:=14) (N:=some 27) (v:=?_) (a':=?_) #[true,true,true,true,true,true,true,true,true,true,true,true,true,true,true,false,false] rfl rfl (by kernel_rfl) (fun _ _ _ h=>h) (Or.inl ⟨by rfl,?_⟩) ?_ ?_
       rotate_left
       ·intro w'
        have hq:=hGb.out AX cX w';go_simp;with_reducible rfl
       rotate_left
       ·simp only[Act.put,sZ0,sZ1,sZ2,i64_w,i32_w];rfl
       refine one_ (i:=15) (N:=some 4) #[true,true,true,true,true,true,true,true,true,true,true,true,true,true,true,true,false] rfl rfl (by kernel_rfl) (by decide) (fun K hK=>?_)
       refine step_alloc 25 Z (by rfl) rfl (by rfl) hz ?_
       intro g4 wn hA0 hg4 hb
       have hg:=Lib.hid (Nat.lt_of_lt_of_le (lt_of_heap hHeld.2) hg4)
       have hA:=Lib.hid hA0
       refine hK.out _ _ ⟨below_step hHeld.1 hb,heap_below hHeld.2 hb⟩ (fun hHeld=>?_)
       (try have hE:=Lib.hid (own_move hE.out (fun k hk=>hb.block k (hE.out.lt k hk).2)))
       (try have hR:=Lib.hid (own_move hR.out (fun k hk=>hb.block k (hR.out.lt k hk).2)))
       clear hb hA0 hg4
       clear hK K;refine norm_ (a':=?_) ?_ ?_
       rotate_left
       ·show Act.put _ (some 4) _=_
        simp only[Act.put,sZ0,sZ1,sZ2,i64_w,i32_w];rfl
       refine last_ (i:=16) (N:=none) #[true,true,true,true,true,true,true,true,true,true,true,true,true,true,true,true,true] rfl rfl (by kernel_rfl) (by decide) (fun K hK=>?_)
       refine step_store 25 (.tmp 4) (.tmp 27) g4 (G AX cX) 25 Z (by rfl) rfl (by rfl) (by rfl) (by rfl) hA.out (hGs.out _ _) (hGZ.out _ _) (hGo.out _ _) ?_
       intro wn hA1 hbut hbel
       refine hK.out _ _ ?_
       have hR:=Lib.hid (own_move hR.out (fun k hk=>hbut.2 k (hR.out.lt k hk).2 (fun e=>own_ne hR.out hA.out (by decide) k hk e)))
       have hfin:SlMid w X (.pointer (some ⟨g4,0,none⟩)) wn:=⟨g4,AX,cX,rfl,by rw[hA1,hG'.out],by rw[hXl.out];exact hR.out,hg.out,by rw[← hZ'.out];exact (hbut.2 _ (lt_of_heap hHeld.2) (Nat.ne_of_lt hg.out)).trans hHeld.2,hHeld.1.trans (hbel _ (Nat.le_of_lt hg.out))⟩
       have hfin':=Lib.hid hfin
       clear hA1 hbut hbel hfin
       clear hK K;refine done_ (by kernel_rfl) ?_
       go_step;go_step
       go_meet
       exact hfin'.out
      refine step_alloc 25 Z (by rfl) rfl (by rfl) hz ?_
      intro g4 wn hA0 hg4 hb
      have hg:=Lib.hid (Nat.lt_of_lt_of_le (lt_of_heap hHeld.2) hg4)
      have hA:=Lib.hid hA0
      refine hK.out _ _ ⟨below_step hHeld.1 hb,heap_below hHeld.2 hb⟩ (fun hHeld=>?_)
      (try have hE:=Lib.hid (own_move hE.out (fun k hk=>hb.block k (hE.out.lt k hk).2)))
      (try have hR:=Lib.hid (own_move hR.out (fun k hk=>hb.block k (hR.out.lt k hk).2)))
      clear hb hA0 hg4
      clear hK K;refine norm_ (a':=?_) ?_ ?_
      rotate_left
      ·show Act.put _ (some 4) _=_
       simp only[Act.put,sZ0,sZ1,sZ2,i64_w,i32_w];rfl
      refine one_ (i:=13) (N:=some 26) #[true,true,true,true,true,true,true,true,true,true,true,true,true,true,false,true,false] rfl rfl (by kernel_rfl) (by decide) (fun K hK=>?_)
      refine step_append0 w.heap.size (.tmp 23) (.tmp 25) 23 (.slice (some ⟨gE,0,none⟩) 0 0) (.slice A24 104 (c - 24)) L24 (by rfl) rfl (by rfl) (by rfl) (by rfl) (hsrc.out _ hHeld.1) hE.out hHeld.1.size (by have:=hl24.out;omega) ?_
      intro AX cX wn hR0 hgr hbg
      (try have hA:=Lib.hid (blk_grown hA.out hgr (fun e=>own_ne hE.out hA.out (by decide) _ e.symm rfl)))
      refine hK.out _ _ ⟨hbg _ _ (Nat.le_refl _) hHeld.1,blk_grown hHeld.2 hgr (fun e=>own_ne hE.out hHeld.2 (by decide) _ e.symm rfl)⟩ (fun hHeld=>?_)
      have hR:=Lib.hid hR0
      clear hgr hbg hR0
      clear hK K;refine norm_ (a':=?_) ?_ ?_
      rotate_left
      ·show Act.put _ (some 26) _=_
       simp only[Act.put,sZ0,sZ1,sZ2,i64_w,i32_w];rfl
      refine pure_ (i:=14) (N:=some 27) (v:=?_) (a':=?_) #[true,true,true,true,true,true,true,true,true,true,true,true,true,true,true,true,false] rfl rfl (by kernel_rfl) (fun _ _ _ h=>h) (Or.inl ⟨by rfl,?_⟩) ?_ ?_
      rotate_left
      ·intro w'
       have hq:=hGb.out AX cX w';go_simp;with_reducible rfl
      rotate_left
      ·simp only[Act.put,sZ0,sZ1,sZ2,i64_w,i32_w];rfl
      refine last_ (i:=16) (N:=none) #[true,true,true,true,true,true,true,true,true,true,true,true,true,true,true,true,true] rfl rfl (by kernel_rfl) (by decide) (fun K hK=>?_)
      refine step_store 25 (.tmp 4) (.tmp 27) g4 (G AX cX) 25 Z (by rfl) rfl (by rfl) (by rfl) (by rfl) hA.out (hGs.out _ _) (hGZ.out _ _) (hGo.out _ _) ?_
      intro wn hA1 hbut hbel
      refine hK.out _ _ ?_
      have hR:=Lib.hid (own_move hR.out (fun k hk=>hbut.2 k (hR.out.lt k hk).2 (fun e=>own_ne hR.out hA.out (by decide) k hk e)))
      have hfin:SlMid w X (.pointer (some ⟨g4,0,none⟩)) wn:=⟨g4,AX,cX,rfl,by rw[hA1,hG'.out],by rw[hXl.out];exact hR.out,hg.out,by rw[← hZ'.out];exact (hbut.2 _ (lt_of_heap hHeld.2) (Nat.ne_of_lt hg.out)).trans hHeld.2,hHeld.1.trans (hbel _ (Nat.le_of_lt hg.out))⟩
      have hfin':=Lib.hid hfin
      clear hA1 hbut hbel hfin
      clear hK K;refine done_ (by kernel_rfl) ?_
      go_step;go_step
      go_meet
      exact hfin'.out
     refine step_alloc 25 Z (by rfl) rfl (by rfl) hz ?_
     intro g4 wn hA0 hg4 hb
     have hg:=Lib.hid (Nat.lt_of_lt_of_le (lt_of_heap hHeld.2) hg4)
     have hA:=Lib.hid hA0
     refine hK.out _ _ ⟨below_step hHeld.1 hb,heap_below hHeld.2 hb⟩ (fun hHeld=>?_)
     (try have hE:=Lib.hid (own_move hE.out (fun k hk=>hb.block k (hE.out.lt k hk).2)))
     (try have hR:=Lib.hid (own_move hR.out (fun k hk=>hb.block k (hR.out.lt k hk).2)))
     clear hb hA0 hg4
     clear hK K;refine norm_ (a':=?_) ?_ ?_
     rotate_left
     ·show Act.put _ (some 4) _=_
      simp only[Act.put,sZ0,sZ1,sZ2,i64_w,i32_w];rfl
     refine one_ (i:=10) (N:=some 23) #[true,true,true,true,true,true,true,true,true,true,true,true,true,false,false,true,false] rfl rfl (by kernel_rfl) (by decide) (fun K hK=>?_)
     refine step_empty 23 5 (by rfl) rfl (by rfl) Try.underlying23 size5' ?_
     intro gE wn hE0 hb
     have hE:=Lib.hid (own_less hE0 hHeld.1.size)
     refine hK.out _ _ ⟨below_step hHeld.1 hb,heap_below hHeld.2 hb⟩ (fun hHeld=>?_)
     (try have hA:=Lib.hid (heap_below hA.out hb))
     clear hb hE0
     clear hK K;refine norm_ (a':=?_) ?_ ?_
     rotate_left
     ·show Act.put _ (some 23) _=_
      simp only[Act.put,sZ0,sZ1,sZ2,i64_w,i32_w];rfl
     refine one_ (i:=13) (N:=some 26) #[true,true,true,true,true,true,true,true,true,true,true,true,true,true,false,true,false] rfl rfl (by kernel_rfl) (by decide) (fun K hK=>?_)
     refine step_append0 w.heap.size (.tmp 23) (.tmp 25) 23 (.slice (some ⟨gE,0,none⟩) 0 0) (.slice A24 104 (c - 24)) L24 (by rfl) rfl (by rfl) (by rfl) (by rfl) (hsrc.out _ hHeld.1) hE.out hHeld.1.size (by have:=hl24.out;omega) ?_
     intro AX cX wn hR0 hgr hbg
     (try have hA:=Lib.hid (blk_grown hA.out hgr (fun e=>own_ne hE.out hA.out (by decide) _ e.symm rfl)))
     refine hK.out _ _ ⟨hbg _ _ (Nat.le_refl _) hHeld.1,blk_grown hHeld.2 hgr (fun e=>own_ne hE.out hHeld.2 (by decide) _ e.symm rfl)⟩ (fun hHeld=>?_)
     have hR:=Lib.hid hR0
     clear hgr hbg hR0
     clear hK K;refine norm_ (a':=?_) ?_ ?_
     rotate_left
     ·show Act.put _ (some 26) _=_
      simp only[Act.put,sZ0,sZ1,sZ2,i64_w,i32_w];rfl
     refine pure_ (i:=14) (N:=some 27) (v:=?_) (a':=?_) #[true,true,true,true,true,true,true,true,true,true,true,true,true,true,true,true,false] rfl rfl (by kernel_rfl) (fun _ _ _ h=>h) (Or.inl ⟨by rfl,?_⟩) ?_ ?_
     rotate_left
     ·intro w'
      have hq:=hGb.out AX cX w';go_simp;with_reducible rfl
     rotate_left
     ·simp only[Act.put,sZ0,sZ1,sZ2,i64_w,i32_w];rfl
     refine last_ (i:=16) (N:=none) #[true,true,true,true,true,true,true,true,true,true,true,true,true,true,true,true,true] rfl rfl (by kernel_rfl) (by decide) (fun K hK=>?_)
     refine step_store 25 (.tmp 4) (.tmp 27) g4 (G AX cX) 25 Z (by rfl) rfl (by rfl) (by rfl) (by rfl) hA.out (hGs.out _ _) (hGZ.out _ _) (hGo.out _ _) ?_
     intro wn hA1 hbut hbel
     refine hK.out _ _ ?_
     have hR:=Lib.hid (own_move hR.out (fun k hk=>hbut.2 k (hR.out.lt k hk).2 (fun e=>own_ne hR.out hA.out (by decide) k hk e)))
     have hfin:SlMid w X (.pointer (some ⟨g4,0,none⟩)) wn:=⟨g4,AX,cX,rfl,by rw[hA1,hG'.out],by rw[hXl.out];exact hR.out,hg.out,by rw[← hZ'.out];exact (hbut.2 _ (lt_of_heap hHeld.2) (Nat.ne_of_lt hg.out)).trans hHeld.2,hHeld.1.trans (hbel _ (Nat.le_of_lt hg.out))⟩
     have hfin':=Lib.hid hfin
     clear hA1 hbut hbel hfin
     clear hK K;refine done_ (by kernel_rfl) ?_
     go_step;go_step
     go_meet
     exact hfin'.out
    ·skip
     refine step_empty 23 5 (by rfl) rfl (by rfl) Try.underlying23 size5' ?_
     intro gE wn hE0 hb
     have hE:=Lib.hid (own_less hE0 hHeld.1.size)
     refine hK.out _ _ ⟨below_step hHeld.1 hb,heap_below hHeld.2 hb⟩ (fun hHeld=>?_)
     (try have hA:=Lib.hid (heap_below hA.out hb))
     clear hb hE0
     clear hK K;refine norm_ (a':=?_) ?_ ?_
     rotate_left
     ·show Act.put _ (some 23) _=_
      simp only[Act.put,sZ0,sZ1,sZ2,i64_w,i32_w];rfl
     refine two_ (i:=9) (Ni:=some 22) (j:=15) (Nj:=some 4) #[true,true,true,true,true,true,true,true,true,true,true,true,true,false,false,false,false] #[true,true,true,true,true,true,true,true,true,false,true,true,true,false,false,true,false] rfl rfl rfl rfl (by kernel_rfl) (by decide) (by decide) (fun K hK=>?_) (fun K hK=>?_)
     ·skip
      refine goes_ Try.func49 (by kernel_rfl) rfl #[.slice A16 8 (c - 16)] (by rfl) rfl rfl (by (try simp only[List.map_toArray,List.map_cons,List.map_nil]);first | done | rfl) ?_
      refine (n16.out _ hHeld.1).mono ?_
      rintro e wn ⟨rfl,hd⟩
      have hb:=drawn_below hd
      refine ⟨_,rfl,?_⟩
      refine hK.out _ _ ⟨below_step hHeld.1 hb,heap_below hHeld.2 hb⟩ (fun hHeld=>?_)
      (try have hE:=Lib.hid (own_move hE.out (fun k hk=>hb.block k (hE.out.lt k hk).2)))
      (try have hA:=Lib.hid (heap_below hA.out hb))
      clear hb hd
      clear hK K;refine norm_ (a':=?_) ?_ ?_
      rotate_left
      ·show Act.put _ (some 22) _=_
       simp only[Act.put,sZ0,sZ1,sZ2,i64_w,i32_w];rfl
      refine two_ (i:=13) (Ni:=some 26) (j:=15) (Nj:=some 4) #[true,true,true,true,true,true,true,true,true,true,true,true,true,true,false,false,false] #[true,true,true,true,true,true,true,true,true,true,true,true,true,false,false,true,false] rfl rfl rfl rfl (by kernel_rfl) (by decide) (by decide) (fun K hK=>?_) (fun K hK=>?_)
      ·skip
       refine step_append0 w.heap.size (.tmp 23) (.tmp 25) 23 (.slice (some ⟨gE,0,none⟩) 0 0) (.slice A24 104 (c - 24)) L24 (by rfl) rfl (by rfl) (by rfl) (by rfl) (hsrc.out _ hHeld.1) hE.out hHeld.1.size (by have:=hl24.out;omega) ?_
       intro AX cX wn hR0 hgr hbg
       (try have hA:=Lib.hid (blk_grown hA.out hgr (fun e=>own_ne hE.out hA.out (by decide) _ e.symm rfl)))
       refine hK.out _ _ ⟨hbg _ _ (Nat.le_refl _) hHeld.1,blk_grown hHeld.2 hgr (fun e=>own_ne hE.out hHeld.2 (by decide) _ e.symm rfl)⟩ (fun hHeld=>?_)
       have hR:=Lib.hid hR0
       clear hgr hbg hR0
       clear hK K;refine norm_ (a':=?_) ?_ ?_
       rotate_left
       ·show Act.put _ (some 26) _=_
        simp only[Act.put,sZ0,sZ1,sZ2,i64_w,i32_w];rfl
       refine pure_ (i:=14) (N:=some 27) (v:=?_) (a':=?_) #[true,true,true,true,true,true,true,true,true,true,true,true,true,true,true,false,false] rfl rfl (by kernel_rfl) (fun _ _ _ h=>h) (Or.inl ⟨by rfl,?_⟩) ?_ ?_
       rotate_left
       ·intro w'
        have hq:=hGb.out AX cX w';go_simp;with_reducible rfl
       rotate_left
       ·simp only[Act.put,sZ0,sZ1,sZ2,i64_w,i32_w];rfl
       refine one_ (i:=15) (N:=some 4) #[true,true,true,true,true,true,true,true,true,true,true,true,true,true,true,true,false] rfl rfl (by kernel_rfl) (by decide) (fun K hK=>?_)
       refine step_alloc 25 Z (by rfl) rfl (by rfl) hz ?_
       intro g4 wn hA0 hg4 hb
       have hg:=Lib.hid (Nat.lt_of_lt_of_le (lt_of_heap hHeld.2) hg4)
       have hA:=Lib.hid hA0
       refine hK.out _ _ ⟨below_step hHeld.1 hb,heap_below hHeld.2 hb⟩ (fun hHeld=>?_)
       (try have hE:=Lib.hid (own_move hE.out (fun k hk=>hb.block k (hE.out.lt k hk).2)))
       (try have hR:=Lib.hid (own_move hR.out (fun k hk=>hb.block k (hR.out.lt k hk).2)))
       clear hb hA0 hg4
       clear hK K;refine norm_ (a':=?_) ?_ ?_
       rotate_left
       ·show Act.put _ (some 4) _=_
        simp only[Act.put,sZ0,sZ1,sZ2,i64_w,i32_w];rfl
       refine last_ (i:=16) (N:=none) #[true,true,true,true,true,true,true,true,true,true,true,true,true,true,true,true,true] rfl rfl (by kernel_rfl) (by decide) (fun K hK=>?_)
       refine step_store 25 (.tmp 4) (.tmp 27) g4 (G AX cX) 25 Z (by rfl) rfl (by rfl) (by rfl) (by rfl) hA.out (hGs.out _ _) (hGZ.out _ _) (hGo.out _ _) ?_
       intro wn hA1 hbut hbel
       refine hK.out _ _ ?_
       have hR:=Lib.hid (own_move hR.out (fun k hk=>hbut.2 k (hR.out.lt k hk).2 (fun e=>own_ne hR.out hA.out (by decide) k hk e)))
       have hfin:SlMid w X (.pointer (some ⟨g4,0,none⟩)) wn:=⟨g4,AX,cX,rfl,by rw[hA1,hG'.out],by rw[hXl.out];exact hR.out,hg.out,by rw[← hZ'.out];exact (hbut.2 _ (lt_of_heap hHeld.2) (Nat.ne_of_lt hg.out)).trans hHeld.2,hHeld.1.trans (hbel _ (Nat.le_of_lt hg.out))⟩
       have hfin':=Lib.hid hfin
       clear hA1 hbut hbel hfin
       clear hK K;refine done_ (by kernel_rfl) ?_
       go_step;go_step
       go_meet
       exact hfin'.out
      refine step_alloc 25 Z (by rfl) rfl (by rfl) hz ?_
      intro g4 wn hA0 hg4 hb
      have hg:=Lib.hid (Nat.lt_of_lt_of_le (lt_of_heap hHeld.2) hg4)
      have hA:=Lib.hid hA0
      refine hK.out _ _ ⟨below_step hHeld.1 hb,heap_below hHeld.2 hb⟩ (fun hHeld=>?_)
      (try have hE:=Lib.hid (own_move hE.out (fun k hk=>hb.block k (hE.out.lt k hk).2)))
      (try have hR:=Lib.hid (own_move hR.out (fun k hk=>hb.block k (hR.out.lt k hk).2)))
      clear hb hA0 hg4
      clear hK K;refine norm_ (a':=?_) ?_ ?_
      rotate_left
      ·show Act.put _ (some 4) _=_
       simp only[Act.put,sZ0,sZ1,sZ2,i64_w,i32_w];rfl
      refine one_ (i:=13) (N:=some 26) #[true,true,true,true,true,true,true,true,true,true,true,true,true,true,false,true,false] rfl rfl (by kernel_rfl) (by decide) (fun K hK=>?_)
      refine step_append0 w.heap.size (.tmp 23) (.tmp 25) 23 (.slice (some ⟨gE,0,none⟩) 0 0) (.slice A24 104 (c - 24)) L24 (by rfl) rfl (by rfl) (by rfl) (by rfl) (hsrc.out _ hHeld.1) hE.out hHeld.1.size (by have:=hl24.out;omega) ?_
      intro AX cX wn hR0 hgr hbg
      (try have hA:=Lib.hid (blk_grown hA.out hgr (fun e=>own_ne hE.out hA.out (by decide) _ e.symm rfl)))
      refine hK.out _ _ ⟨hbg _ _ (Nat.le_refl _) hHeld.1,blk_grown hHeld.2 hgr (fun e=>own_ne hE.out hHeld.2 (by decide) _ e.symm rfl)⟩ (fun hHeld=>?_)
      have hR:=Lib.hid hR0
      clear hgr hbg hR0
      clear hK K;refine norm_ (a':=?_) ?_ ?_
      rotate_left
      ·show Act.put _ (some 26) _=_
       simp only[Act.put,sZ0,sZ1,sZ2,i64_w,i32_w];rfl
      refine pure_ (i:=14) (N:=some 27) (v:=?_) (a':=?_) #[true,true,true,true,true,true,true,true,true,true,true,true,true,true,true,true,false] rfl rfl (by kernel_rfl) (fun _ _ _ h=>h) (Or.inl ⟨by rfl,?_⟩) ?_ ?_
      rotate_left
      ·intro w'
       have hq:=hGb.out AX cX w';go_simp;with_reducible rfl
      rotate_left
      ·simp only[Act.put,sZ0,sZ1,sZ2,i64_w,i32_w];rfl
      refine last_ (i:=16) (N:=none) #[true,true,true,true,true,true,true,true,true,true,true,true,true,true,true,true,true] rfl rfl (by kernel_rfl) (by decide) (fun K hK=>?_)
      refine step_store 25 (.tmp 4) (.tmp 27) g4 (G AX cX) 25 Z (by rfl) rfl (by rfl) (by rfl) (by rfl) hA.out (hGs.out _ _) (hGZ.out _ _) (hGo.out _ _) ?_
      intro wn hA1 hbut hbel
      refine hK.out _ _ ?_
      have hR:=Lib.hid (own_move hR.out (fun k hk=>hbut.2 k (hR.out.lt k hk).2 (fun e=>own_ne hR.out hA.out (by decide) k hk e)))
      have hfin:SlMid w X (.pointer (some ⟨g4,0,none⟩)) wn:=⟨g4,AX,cX,rfl,by rw[hA1,hG'.out],by rw[hXl.out];exact hR.out,hg.out,by rw[← hZ'.out];exact (hbut.2 _ (lt_of_heap hHeld.2) (Nat.ne_of_lt hg.out)).trans hHeld.2,hHeld.1.trans (hbel _ (Nat.le_of_lt hg.out))⟩
      have hfin':=Lib.hid hfin
      clear hA1 hbut hbel hfin
      clear hK K;refine done_ (by kernel_rfl) ?_
      go_step;go_step
      go_meet
      exact hfin'.out
     refine step_alloc 25 Z (by rfl) rfl (by rfl) hz ?_
     intro g4 wn hA0 hg4 hb
     have hg:=Lib.hid (Nat.lt_of_lt_of_le (lt_of_heap hHeld.2) hg4)
     have hA:=Lib.hid hA0
     refine hK.out _ _ ⟨below_step hHeld.1 hb,heap_below hHeld.2 hb⟩ (fun hHeld=>?_)
     (try have hE:=Lib.hid (own_move hE.out (fun k hk=>hb.block k (hE.out.lt k hk).2)))
     (try have hR:=Lib.hid (own_move hR.out (fun k hk=>hb.block k (hR.out.lt k hk).2)))
     clear hb hA0 hg4
     clear hK K;refine norm_ (a':=?_) ?_ ?_
     rotate_left
     ·show Act.put _ (some 4) _=_
      simp only[Act.put,sZ0,sZ1,sZ2,i64_w,i32_w];rfl
     refine one_ (i:=9) (N:=some 22) #[true,true,true,true,true,true,true,true,true,true,true,true,true,false,false,true,false] rfl rfl (by kernel_rfl) (by decide) (fun K hK=>?_)
     refine goes_ Try.func49 (by kernel_rfl) rfl #[.slice A16 8 (c - 16)] (by rfl) rfl rfl (by (try simp only[List.map_toArray,List.map_cons,List.map_nil]);first | done | rfl) ?_
     refine (n16.out _ hHeld.1).mono ?_
     rintro e wn ⟨rfl,hd⟩
     have hb:=drawn_below hd
     refine ⟨_,rfl,?_⟩
     refine hK.out _ _ ⟨below_step hHeld.1 hb,heap_below hHeld.2 hb⟩ (fun hHeld=>?_)
     (try have hE:=Lib.hid (own_move hE.out (fun k hk=>hb.block k (hE.out.lt k hk).2)))
     (try have hA:=Lib.hid (heap_below hA.out hb))
     clear hb hd
     clear hK K;refine norm_ (a':=?_) ?_ ?_
     rotate_left
     ·show Act.put _ (some 22) _=_
      simp only[Act.put,sZ0,sZ1,sZ2,i64_w,i32_w];rfl
     refine one_ (i:=13) (N:=some 26) #[true,true,true,true,true,true,true,true,true,true,true,true,true,true,false,true,false] rfl rfl (by kernel_rfl) (by decide) (fun K hK=>?_)
     refine step_append0 w.heap.size (.tmp 23) (.tmp 25) 23 (.slice (some ⟨gE,0,none⟩) 0 0) (.slice A24 104 (c - 24)) L24 (by rfl) rfl (by rfl) (by rfl) (by rfl) (hsrc.out _ hHeld.1) hE.out hHeld.1.size (by have:=hl24.out;omega) ?_
     intro AX cX wn hR0 hgr hbg
     (try have hA:=Lib.hid (blk_grown hA.out hgr (fun e=>own_ne hE.out hA.out (by decide) _ e.symm rfl)))
     refine hK.out _ _ ⟨hbg _ _ (Nat.le_refl _) hHeld.1,blk_grown hHeld.2 hgr (fun e=>own_ne hE.out hHeld.2 (by decide) _ e.symm rfl)⟩ (fun hHeld=>?_)
     have hR:=Lib.hid hR0
     clear hgr hbg hR0
     clear hK K;refine norm_ (a':=?_) ?_ ?_
     rotate_left
     ·show Act.put _ (some 26) _=_
      simp only[Act.put,sZ0,sZ1,sZ2,i64_w,i32_w];rfl
     refine pure_ (i:=14) (N:=some 27) (v:=?_) (a':=?_) #[true,true,true,true,true,true,true,true,true,true,true,true,true,true,true,true,false] rfl rfl (by kernel_rfl) (fun _ _ _ h=>h) (Or.inl ⟨by rfl,?_⟩) ?_ ?_
     rotate_left
     ·intro w'
      have hq:=hGb.out AX cX w';go_simp;with_reducible rfl
     rotate_left
     ·simp only[Act.put,sZ0,sZ1,sZ2,i64_w,i32_w];rfl
     refine last_ (i:=16) (N:=none) #[true,true,true,true,true,true,true,true,true,true,true,true,true,true,true,true,true] rfl rfl (by kernel_rfl) (by decide) (fun K hK=>?_)
     refine step_store 25 (.tmp 4) (.tmp 27) g4 (G AX cX) 25 Z (by rfl) rfl (by rfl) (by rfl) (by rfl) hA.out (hGs.out _ _) (hGZ.out _ _) (hGo.out _ _) ?_
     intro wn hA1 hbut hbel
     refine hK.out _ _ ?_
     have hR:=Lib.hid (own_move hR.out (fun k hk=>hbut.2 k (hR.out.lt k hk).2 (fun e=>own_ne hR.out hA.out (by decide) k hk e)))
     have hfin:SlMid w X (.pointer (some ⟨g4,0,none⟩)) wn:=⟨g4,AX,cX,rfl,by rw[hA1,hG'.out],by rw[hXl.out];exact hR.out,hg.out,by rw[← hZ'.out];exact (hbut.2 _ (lt_of_heap hHeld.2) (Nat.ne_of_lt hg.out)).trans hHeld.2,hHeld.1.trans (hbel _ (Nat.le_of_lt hg.out))⟩
     have hfin':=Lib.hid hfin
     clear hA1 hbut hbel hfin
     clear hK K;refine done_ (by kernel_rfl) ?_
     go_step;go_step
     go_meet
     exact hfin'.out
    refine step_alloc 25 Z (by rfl) rfl (by rfl) hz ?_
    intro g4 wn hA0 hg4 hb
    have hg:=Lib.hid (Nat.lt_of_lt_of_le (lt_of_heap hHeld.2) hg4)
    have hA:=Lib.hid hA0
    refine hK.out _ _ ⟨below_step hHeld.1 hb,heap_below hHeld.2 hb⟩ (fun hHeld=>?_)
    (try have hE:=Lib.hid (own_move hE.out (fun k hk=>hb.block k (hE.out.lt k hk).2)))
    (try have hR:=Lib.hid (own_move hR.out (fun k hk=>hb.block k (hR.out.lt k hk).2)))
    clear hb hA0 hg4
    clear hK K;refine norm_ (a':=?_) ?_ ?_
    rotate_left
    ·show Act.put _ (some 4) _=_
     simp only[Act.put,sZ0,sZ1,sZ2,i64_w,i32_w];rfl
    refine two_ (i:=9) (Ni:=some 22) (j:=10) (Nj:=some 23) #[true,true,true,true,true,true,true,true,true,true,false,true,true,false,false,true,false] #[true,true,true,true,true,true,true,true,true,false,true,true,true,false,false,true,false] rfl rfl rfl rfl (by kernel_rfl) (by decide) (by decide) (fun K hK=>?_) (fun K hK=>?_)
    ·skip
     refine goes_ Try.func49 (by kernel_rfl) rfl #[.slice A16 8 (c - 16)] (by rfl) rfl rfl (by (try simp only[List.map_toArray,List.map_cons,List.map_nil]);first | done | rfl) ?_
     refine (n16.out _ hHeld.1).mono ?_
     rintro e wn ⟨rfl,hd⟩
     have hb:=drawn_below hd
     refine ⟨_,rfl,?_⟩
     refine hK.out _ _ ⟨below_step hHeld.1 hb,heap_below hHeld.2 hb⟩ (fun hHeld=>?_)
     (try have hE:=Lib.hid (own_move hE.out (fun k hk=>hb.block k (hE.out.lt k hk).2)))
     (try have hA:=Lib.hid (heap_below hA.out hb))
     clear hb hd
     clear hK K;refine norm_ (a':=?_) ?_ ?_
     rotate_left
     ·show Act.put _ (some 22) _=_
      simp only[Act.put,sZ0,sZ1,sZ2,i64_w,i32_w];rfl
     refine one_ (i:=10) (N:=some 23) #[true,true,true,true,true,true,true,true,true,true,true,true,true,false,false,true,false] rfl rfl (by kernel_rfl) (by decide) (fun K hK=>?_)
     refine step_empty 23 5 (by rfl) rfl (by rfl) Try.underlying23 size5' ?_
     intro gE wn hE0 hb
     have hE:=Lib.hid (own_less hE0 hHeld.1.size)
     refine hK.out _ _ ⟨below_step hHeld.1 hb,heap_below hHeld.2 hb⟩ (fun hHeld=>?_)
     (try have hA:=Lib.hid (heap_below hA.out hb))
     clear hb hE0
     clear hK K;refine norm_ (a':=?_) ?_ ?_
     rotate_left
     ·show Act.put _ (some 23) _=_
      simp only[Act.put,sZ0,sZ1,sZ2,i64_w,i32_w];rfl
     refine one_ (i:=13) (N:=some 26) #[true,true,true,true,true,true,true,true,true,true,true,true,true,true,false,true,false] rfl rfl (by kernel_rfl) (by decide) (fun K hK=>?_)
     refine step_append0 w.heap.size (.tmp 23) (.tmp 25) 23 (.slice (some ⟨gE,0,none⟩) 0 0) (.slice A24 104 (c - 24)) L24 (by rfl) rfl (by rfl) (by rfl) (by rfl) (hsrc.out _ hHeld.1) hE.out hHeld.1.size (by have:=hl24.out;omega) ?_
     intro AX cX wn hR0 hgr hbg
     (try have hA:=Lib.hid (blk_grown hA.out hgr (fun e=>own_ne hE.out hA.out (by decide) _ e.symm rfl)))
     refine hK.out _ _ ⟨hbg _ _ (Nat.le_refl _) hHeld.1,blk_grown hHeld.2 hgr (fun e=>own_ne hE.out hHeld.2 (by decide) _ e.symm rfl)⟩ (fun hHeld=>?_)
     have hR:=Lib.hid hR0
     clear hgr hbg hR0
     clear hK K;refine norm_ (a':=?_) ?_ ?_
     rotate_left
     ·show Act.put _ (some 26) _=_
      simp only[Act.put,sZ0,sZ1,sZ2,i64_w,i32_w];rfl
     refine pure_ (i:=14) (N:=some 27) (v:=?_) (a':=?_) #[true,true,true,true,true,true,true,true,true,true,true,true,true,true,true,true,false] rfl rfl (by kernel_rfl) (fun _ _ _ h=>h) (Or.inl ⟨by rfl,?_⟩) ?_ ?_
     rotate_left
     ·intro w'
      have hq:=hGb.out AX cX w';go_simp;with_reducible rfl
     rotate_left
     ·simp only[Act.put,sZ0,sZ1,sZ2,i64_w,i32_w];rfl
     refine last_ (i:=16) (N:=none) #[true,true,true,true,true,true,true,true,true,true,true,true,true,true,true,true,true] rfl rfl (by kernel_rfl) (by decide) (fun K hK=>?_)
     refine step_store 25 (.tmp 4) (.tmp 27) g4 (G AX cX) 25 Z (by rfl) rfl (by rfl) (by rfl) (by rfl) hA.out (hGs.out _ _) (hGZ.out _ _) (hGo.out _ _) ?_
     intro wn hA1 hbut hbel
     refine hK.out _ _ ?_
     have hR:=Lib.hid (own_move hR.out (fun k hk=>hbut.2 k (hR.out.lt k hk).2 (fun e=>own_ne hR.out hA.out (by decide) k hk e)))
     have hfin:SlMid w X (.pointer (some ⟨g4,0,none⟩)) wn:=⟨g4,AX,cX,rfl,by rw[hA1,hG'.out],by rw[hXl.out];exact hR.out,hg.out,by rw[← hZ'.out];exact (hbut.2 _ (lt_of_heap hHeld.2) (Nat.ne_of_lt hg.out)).trans hHeld.2,hHeld.1.trans (hbel _ (Nat.le_of_lt hg.out))⟩
     have hfin':=Lib.hid hfin
     clear hA1 hbut hbel hfin
     clear hK K;refine done_ (by kernel_rfl) ?_
     go_step;go_step
     go_meet
     exact hfin'.out
    refine step_empty 23 5 (by rfl) rfl (by rfl) Try.underlying23 size5' ?_
    intro gE wn hE0 hb
    have hE:=Lib.hid (own_less hE0 hHeld.1.size)
    refine hK.out _ _ ⟨below_step hHeld.1 hb,heap_below hHeld.2 hb⟩ (fun hHeld=>?_)
    (try have hA:=Lib.hid (heap_below hA.out hb))
    clear hb hE0
    clear hK K;refine norm_ (a':=?_) ?_ ?_
    rotate_left
    ·show Act.put _ (some 23) _=_
     simp only[Act.put,sZ0,sZ1,sZ2,i64_w,i32_w];rfl
    refine one_ (i:=9) (N:=some 22) #[true,true,true,true,true,true,true,true,true,true,true,true,true,false,false,true,false] rfl rfl (by kernel_rfl) (by decide) (fun K hK=>?_)
    refine goes_ Try.func49 (by kernel_rfl) rfl #[.slice A16 8 (c - 16)] (by rfl) rfl rfl (by (try simp only[List.map_toArray,List.map_cons,List.map_nil]);first | done | rfl) ?_
    refine (n16.out _ hHeld.1).mono ?_
    rintro e wn ⟨rfl,hd⟩
    have hb:=drawn_below hd
    refine ⟨_,rfl,?_⟩
    refine hK.out _ _ ⟨below_step hHeld.1 hb,heap_below hHeld.2 hb⟩ (fun hHeld=>?_)
    (try have hE:=Lib.hid (own_move hE.out (fun k hk=>hb.block k (hE.out.lt k hk).2)))
    (try have hA:=Lib.hid (heap_below hA.out hb))
    clear hb hd
    clear hK K;refine norm_ (a':=?_) ?_ ?_
    rotate_left
    ·show Act.put _ (some 22) _=_
     simp only[Act.put,sZ0,sZ1,sZ2,i64_w,i32_w];rfl
    refine one_ (i:=13) (N:=some 26) #[true,true,true,true,true,true,true,true,true,true,true,true,true,true,false,true,false] rfl rfl (by kernel_rfl) (by decide) (fun K hK=>?_)
    refine step_append0 w.heap.size (.tmp 23) (.tmp 25) 23 (.slice (some ⟨gE,0,none⟩) 0 0) (.slice A24 104 (c - 24)) L24 (by rfl) rfl (by rfl) (by rfl) (by rfl) (hsrc.out _ hHeld.1) hE.out hHeld.1.size (by have:=hl24.out;omega) ?_
    intro AX cX wn hR0 hgr hbg
    (try have hA:=Lib.hid (blk_grown hA.out hgr (fun e=>own_ne hE.out hA.out (by decide) _ e.symm rfl)))
    refine hK.out _ _ ⟨hbg _ _ (Nat.le_refl _) hHeld.1,blk_grown hHeld.2 hgr (fun e=>own_ne hE.out hHeld.2 (by decide) _ e.symm rfl)⟩ (fun hHeld=>?_)
    have hR:=Lib.hid hR0
    clear hgr hbg hR0
    clear hK K;refine norm_ (a':=?_) ?_ ?_
    rotate_left
    ·show Act.put _ (some 26) _=_
     simp only[Act.put,sZ0,sZ1,sZ2,i64_w,i32_w];rfl
    refine pure_ (i:=14) (N:=some 27) (v:=?_) (a':=?_) #[true,true,true,true,true,true,true,true,true,true,true,true,true,true,true,true,false] rfl rfl (by kernel_rfl) (fun _ _ _ h=>h) (Or.inl ⟨by rfl,?_⟩) ?_ ?_
    rotate_left
    ·intro w'
     have hq:=hGb.out AX cX w';go_simp;with_reducible rfl
    rotate_left
    ·simp only[Act.put,sZ0,sZ1,sZ2,i64_w,i32_w];rfl
    refine last_ (i:=16) (N:=none) #[true,true,true,true,true,true,true,true,true,true,true,true,true,true,true,true,true] rfl rfl (by kernel_rfl) (by decide) (fun K hK=>?_)
    refine step_store 25 (.tmp 4) (.tmp 27) g4 (G AX cX) 25 Z (by rfl) rfl (by rfl) (by rfl) (by rfl) hA.out (hGs.out _ _) (hGZ.out _ _) (hGo.out _ _) ?_
    intro wn hA1 hbut hbel
    refine hK.out _ _ ?_
    have hR:=Lib.hid (own_move hR.out (fun k hk=>hbut.2 k (hR.out.lt k hk).2 (fun e=>own_ne hR.out hA.out (by decide) k hk e)))
    have hfin:SlMid w X (.pointer (some ⟨g4,0,none⟩)) wn:=⟨g4,AX,cX,rfl,by rw[hA1,hG'.out],by rw[hXl.out];exact hR.out,hg.out,by rw[← hZ'.out];exact (hbut.2 _ (lt_of_heap hHeld.2) (Nat.ne_of_lt hg.out)).trans hHeld.2,hHeld.1.trans (hbel _ (Nat.le_of_lt hg.out))⟩
    have hfin':=Lib.hid hfin
    clear hA1 hbut hbel hfin
    clear hK K;refine done_ (by kernel_rfl) ?_
    go_step;go_step
    go_meet
    exact hfin'.out
   ·skip
    refine step_empty 23 5 (by rfl) rfl (by rfl) Try.underlying23 size5' ?_
    intro gE wn hE0 hb
    have hE:=Lib.hid (own_less hE0 hHeld.1.size)
    refine hK.out _ _ ⟨below_step hHeld.1 hb,heap_below hHeld.2 hb⟩ (fun hHeld=>?_)
    (try have hA:=Lib.hid (heap_below hA.out hb))
    clear hb hE0
    clear hK K;refine norm_ (a':=?_) ?_ ?_
    rotate_left
    ·show Act.put _ (some 23) _=_
     simp only[Act.put,sZ0,sZ1,sZ2,i64_w,i32_w];rfl
    refine two_ (i:=6) (Ni:=some 19) (j:=15) (Nj:=some 4) #[true,true,true,true,true,true,true,true,true,false,true,true,true,false,false,false,false] #[true,true,true,true,true,true,false,true,true,false,true,true,true,false,false,true,false] rfl rfl rfl rfl (by kernel_rfl) (by decide) (by decide) (fun K hK=>?_) (fun K hK=>?_)
    ·skip
     refine goes_ Try.func49 (by kernel_rfl) rfl #[.slice A8 8 (c - 8)] (by rfl) rfl rfl (by (try simp only[List.map_toArray,List.map_cons,List.map_nil]);first | done | rfl) ?_
     refine (n8.out _ hHeld.1).mono ?_
     rintro e wn ⟨rfl,hd⟩
     have hb:=drawn_below hd
     refine ⟨_,rfl,?_⟩
     refine hK.out _ _ ⟨below_step hHeld.1 hb,heap_below hHeld.2 hb⟩ (fun hHeld=>?_)
     (try have hE:=Lib.hid (own_move hE.out (fun k hk=>hb.block k (hE.out.lt k hk).2)))
     (try have hA:=Lib.hid (heap_below hA.out hb))
     clear hb hd
     clear hK K;refine norm_ (a':=?_) ?_ ?_
     rotate_left
     ·show Act.put _ (some 19) _=_
      simp only[Act.put,sZ0,sZ1,sZ2,i64_w,i32_w];rfl
     refine two_ (i:=9) (Ni:=some 22) (j:=15) (Nj:=some 4) #[true,true,true,true,true,true,true,true,true,true,true,true,true,false,false,false,false] #[true,true,true,true,true,true,true,true,true,false,true,true,true,false,false,true,false] rfl rfl rfl rfl (by kernel_rfl) (by decide) (by decide) (fun K hK=>?_) (fun K hK=>?_)
     ·skip
      refine goes_ Try.func49 (by kernel_rfl) rfl #[.slice A16 8 (c - 16)] (by rfl) rfl rfl (by (try simp only[List.map_toArray,List.map_cons,List.map_nil]);first | done | rfl) ?_
      refine (n16.out _ hHeld.1).mono ?_
      rintro e wn ⟨rfl,hd⟩
      have hb:=drawn_below hd
      refine ⟨_,rfl,?_⟩
      refine hK.out _ _ ⟨below_step hHeld.1 hb,heap_below hHeld.2 hb⟩ (fun hHeld=>?_)
      (try have hE:=Lib.hid (own_move hE.out (fun k hk=>hb.block k (hE.out.lt k hk).2)))
      (try have hA:=Lib.hid (heap_below hA.out hb))
      clear hb hd
      clear hK K;refine norm_ (a':=?_) ?_ ?_
      rotate_left
      ·show Act.put _ (some 22) _=_
       simp only[Act.put,sZ0,sZ1,sZ2,i64_w,i32_w];rfl
      refine two_ (i:=13) (Ni:=some 26) (j:=15) (Nj:=some 4) #[true,true,true,true,true,true,true,true,true,true,true,true,true,true,false,false,false] #[true,true,true,true,true,true,true,true,true,true,true,true,true,false,false,true,false] rfl rfl rfl rfl (by kernel_rfl) (by decide) (by decide) (fun K hK=>?_) (fun K hK=>?_)
      ·skip
       refine step_append0 w.heap.size (.tmp 23) (.tmp 25) 23 (.slice (some ⟨gE,0,none⟩) 0 0) (.slice A24 104 (c - 24)) L24 (by rfl) rfl (by rfl) (by rfl) (by rfl) (hsrc.out _ hHeld.1) hE.out hHeld.1.size (by have:=hl24.out;omega) ?_
       intro AX cX wn hR0 hgr hbg
       (try have hA:=Lib.hid (blk_grown hA.out hgr (fun e=>own_ne hE.out hA.out (by decide) _ e.symm rfl)))
       refine hK.out _ _ ⟨hbg _ _ (Nat.le_refl _) hHeld.1,blk_grown hHeld.2 hgr (fun e=>own_ne hE.out hHeld.2 (by decide) _ e.symm rfl)⟩ (fun hHeld=>?_)
       have hR:=Lib.hid hR0
       clear hgr hbg hR0
       clear hK K;refine norm_ (a':=?_) ?_ ?_
       rotate_left
       ·show Act.put _ (some 26) _=_
        simp only[Act.put,sZ0,sZ1,sZ2,i64_w,i32_w];rfl
       refine pure_ (i:=14) (N:=some 27) (v:=?_) (a':=?_) #[true,true,true,true,true,true,true,true,true,true,true,true,true,true,true,false,false] rfl rfl (by kernel_rfl) (fun _ _ _ h=>h) (Or.inl ⟨by rfl,?_⟩) ?_ ?_
       rotate_left
       ·intro w'
        have hq:=hGb.out AX cX w';go_simp;with_reducible rfl
       rotate_left
       ·simp only[Act.put,sZ0,sZ1,sZ2,i64_w,i32_w];rfl
       refine one_ (i:=15) (N:=some 4) #[true,true,true,true,true,true,true,true,true,true,true,true,true,true,true,true,false] rfl rfl (by kernel_rfl) (by decide) (fun K hK=>?_)
       refine step_alloc 25 Z (by rfl) rfl (by rfl) hz ?_
       intro g4 wn hA0 hg4 hb
       have hg:=Lib.hid (Nat.lt_of_lt_of_le (lt_of_heap hHeld.2) hg4)
       have hA:=Lib.hid hA0
       refine hK.out _ _ ⟨below_step hHeld.1 hb,heap_below hHeld.2 hb⟩ (fun hHeld=>?_)
       (try have hE:=Lib.hid (own_move hE.out (fun k hk=>hb.block k (hE.out.lt k hk).2)))
       (try have hR:=Lib.hid (own_move hR.out (fun k hk=>hb.block k (hR.out.lt k hk).2)))
       clear hb hA0 hg4
       clear hK K;refine norm_ (a':=?_) ?_ ?_
       rotate_left
       ·show Act.put _ (some 4) _=_
        simp only[Act.put,sZ0,sZ1,sZ2,i64_w,i32_w];rfl
       refine last_ (i:=16) (N:=none) #[true,true,true,true,true,true,true,true,true,true,true,true,true,true,true,true,true] rfl rfl (by kernel_rfl) (by decide) (fun K hK=>?_)
       refine step_store 25 (.tmp 4) (.tmp 27) g4 (G AX cX) 25 Z (by rfl) rfl (by rfl) (by rfl) (by rfl) hA.out (hGs.out _ _) (hGZ.out _ _) (hGo.out _ _) ?_
       intro wn hA1 hbut hbel
       refine hK.out _ _ ?_
       have hR:=Lib.hid (own_move hR.out (fun k hk=>hbut.2 k (hR.out.lt k hk).2 (fun e=>own_ne hR.out hA.out (by decide) k hk e)))
       have hfin:SlMid w X (.pointer (some ⟨g4,0,none⟩)) wn:=⟨g4,AX,cX,rfl,by rw[hA1,hG'.out],by rw[hXl.out];exact hR.out,hg.out,by rw[← hZ'.out];exact (hbut.2 _ (lt_of_heap hHeld.2) (Nat.ne_of_lt hg.out)).trans hHeld.2,hHeld.1.trans (hbel _ (Nat.le_of_lt hg.out))⟩
       have hfin':=Lib.hid hfin
       clear hA1 hbut hbel hfin
       clear hK K;refine done_ (by kernel_rfl) ?_
       go_step;go_step
       go_meet
       exact hfin'.out
      refine step_alloc 25 Z (by rfl) rfl (by rfl) hz ?_
      intro g4 wn hA0 hg4 hb
      have hg:=Lib.hid (Nat.lt_of_lt_of_le (lt_of_heap hHeld.2) hg4)
      have hA:=Lib.hid hA0
      refine hK.out _ _ ⟨below_step hHeld.1 hb,heap_below hHeld.2 hb⟩ (fun hHeld=>?_)
      (try have hE:=Lib.hid (own_move hE.out (fun k hk=>hb.block k (hE.out.lt k hk).2)))
      (try have hR:=Lib.hid (own_move hR.out (fun k hk=>hb.block k (hR.out.lt k hk).2)))
      clear hb hA0 hg4
      clear hK K;refine norm_ (a':=?_) ?_ ?_
      rotate_left
      ·show Act.put _ (some 4) _=_
       simp only[Act.put,sZ0,sZ1,sZ2,i64_w,i32_w];rfl
      refine one_ (i:=13) (N:=some 26) #[true,true,true,true,true,true,true,true,true,true,true,true,true,true,false,true,false] rfl rfl (by kernel_rfl) (by decide) (fun K hK=>?_)
      refine step_append0 w.heap.size (.tmp 23) (.tmp 25) 23 (.slice (some ⟨gE,0,none⟩) 0 0) (.slice A24 104 (c - 24)) L24 (by rfl) rfl (by rfl) (by rfl) (by rfl) (hsrc.out _ hHeld.1) hE.out hHeld.1.size (by have:=hl24.out;omega) ?_
      intro AX cX wn hR0 hgr hbg
      (try have hA:=Lib.hid (blk_grown hA.out hgr (fun e=>own_ne hE.out hA.out (by decide) _ e.symm rfl)))
      refine hK.out _ _ ⟨hbg _ _ (Nat.le_refl _) hHeld.1,blk_grown hHeld.2 hgr (fun e=>own_ne hE.out hHeld.2 (by decide) _ e.symm rfl)⟩ (fun hHeld=>?_)
      have hR:=Lib.hid hR0
      clear hgr hbg hR0
      clear hK K;refine norm_ (a':=?_) ?_ ?_
      rotate_left
      ·show Act.put _ (some 26) _=_
       simp only[Act.put,sZ0,sZ1,sZ2,i64_w,i32_w];rfl
      refine pure_ (i:=14) (N:=some 27) (v:=?_) (a':=?_) #[true,true,true,true,true,true,true,true,true,true,true,true,true,true,true,true,false] rfl rfl (by kernel_rfl) (fun _ _ _ h=>h) (Or.inl ⟨by rfl,?_⟩) ?_ ?_
      rotate_left
      ·intro w'
       have hq:=hGb.out AX cX w';go_simp;with_reducible rfl
      rotate_left
      ·simp only[Act.put,sZ0,sZ1,sZ2,i64_w,i32_w];rfl
      refine last_ (i:=16) (N:=none) #[true,true,true,true,true,true,true,true,true,true,true,true,true,true,true,true,true] rfl rfl (by kernel_rfl) (by decide) (fun K hK=>?_)
      refine step_store 25 (.tmp 4) (.tmp 27) g4 (G AX cX) 25 Z (by rfl) rfl (by rfl) (by rfl) (by rfl) hA.out (hGs.out _ _) (hGZ.out _ _) (hGo.out _ _) ?_
      intro wn hA1 hbut hbel
      refine hK.out _ _ ?_
      have hR:=Lib.hid (own_move hR.out (fun k hk=>hbut.2 k (hR.out.lt k hk).2 (fun e=>own_ne hR.out hA.out (by decide) k hk e)))
      have hfin:SlMid w X (.pointer (some ⟨g4,0,none⟩)) wn:=⟨g4,AX,cX,rfl,by rw[hA1,hG'.out],by rw[hXl.out];exact hR.out,hg.out,by rw[← hZ'.out];exact (hbut.2 _ (lt_of_heap hHeld.2) (Nat.ne_of_lt hg.out)).trans hHeld.2,hHeld.1.trans (hbel _ (Nat.le_of_lt hg.out))⟩
      have hfin':=Lib.hid hfin
      clear hA1 hbut hbel hfin
      clear hK K;refine done_ (by kernel_rfl) ?_
      go_step;go_step
      go_meet
      exact hfin'.out
     refine step_alloc 25 Z (by rfl) rfl (by rfl) hz ?_
     intro g4 wn hA0 hg4 hb
     have hg:=Lib.hid (Nat.lt_of_lt_of_le (lt_of_heap hHeld.2) hg4)
     have hA:=Lib.hid hA0
     refine hK.out _ _ ⟨below_step hHeld.1 hb,heap_below hHeld.2 hb⟩ (fun hHeld=>?_)
     (try have hE:=Lib.hid (own_move hE.out (fun k hk=>hb.block k (hE.out.lt k hk).2)))
     (try have hR:=Lib.hid (own_move hR.out (fun k hk=>hb.block k (hR.out.lt k hk).2)))
     clear hb hA0 hg4
     clear hK K;refine norm_ (a':=?_) ?_ ?_
     rotate_left
     ·show Act.put _ (some 4) _=_
      simp only[Act.put,sZ0,sZ1,sZ2,i64_w,i32_w];rfl
     refine one_ (i:=9) (N:=some 22) #[true,true,true,true,true,true,true,true,true,true,true,true,true,false,false,true,false] rfl rfl (by kernel_rfl) (by decide) (fun K hK=>?_)
     refine goes_ Try.func49 (by kernel_rfl) rfl #[.slice A16 8 (c - 16)] (by rfl) rfl rfl (by (try simp only[List.map_toArray,List.map_cons,List.map_nil]);first | done | rfl) ?_
     refine (n16.out _ hHeld.1).mono ?_
     rintro e wn ⟨rfl,hd⟩
     have hb:=drawn_below hd
     refine ⟨_,rfl,?_⟩
     refine hK.out _ _ ⟨below_step hHeld.1 hb,heap_below hHeld.2 hb⟩ (fun hHeld=>?_)
     (try have hE:=Lib.hid (own_move hE.out (fun k hk=>hb.block k (hE.out.lt k hk).2)))
     (try have hA:=Lib.hid (heap_below hA.out hb))
     clear hb hd
     clear hK K;refine norm_ (a':=?_) ?_ ?_
     rotate_left
     ·show Act.put _ (some 22) _=_
      simp only[Act.put,sZ0,sZ1,sZ2,i64_w,i32_w];rfl
     refine one_ (i:=13) (N:=some 26) #[true,true,true,true,true,true,true,true,true,true,true,true,true,true,false,true,false] rfl rfl (by kernel_rfl) (by decide) (fun K hK=>?_)
     refine step_append0 w.heap.size (.tmp 23) (.tmp 25) 23 (.slice (some ⟨gE,0,none⟩) 0 0) (.slice A24 104 (c - 24)) L24 (by rfl) rfl (by rfl) (by rfl) (by rfl) (hsrc.out _ hHeld.1) hE.out hHeld.1.size (by have:=hl24.out;omega) ?_
     intro AX cX wn hR0 hgr hbg
     (try have hA:=Lib.hid (blk_grown hA.out hgr (fun e=>own_ne hE.out hA.out (by decide) _ e.symm rfl)))
     refine hK.out _ _ ⟨hbg _ _ (Nat.le_refl _) hHeld.1,blk_grown hHeld.2 hgr (fun e=>own_ne hE.out hHeld.2 (by decide) _ e.symm rfl)⟩ (fun hHeld=>?_)
     have hR:=Lib.hid hR0
     clear hgr hbg hR0
     clear hK K;refine norm_ (a':=?_) ?_ ?_
     rotate_left
     ·show Act.put _ (some 26) _=_
      simp only[Act.put,sZ0,sZ1,sZ2,i64_w,i32_w];rfl
     refine pure_ (i:=14) (N:=some 27) (v:=?_) (a':=?_) #[true,true,true,true,true,true,true,true,true,true,true,true,true,true,true,true,false] rfl rfl (by kernel_rfl) (fun _ _ _ h=>h) (Or.inl ⟨by rfl,?_⟩) ?_ ?_
     rotate_left
     ·intro w'
      have hq:=hGb.out AX cX w';go_simp;with_reducible rfl
     rotate_left
     ·simp only[Act.put,sZ0,sZ1,sZ2,i64_w,i32_w];rfl
     refine last_ (i:=16) (N:=none) #[true,true,true,true,true,true,true,true,true,true,true,true,true,true,true,true,true] rfl rfl (by kernel_rfl) (by decide) (fun K hK=>?_)
     refine step_store 25 (.tmp 4) (.tmp 27) g4 (G AX cX) 25 Z (by rfl) rfl (by rfl) (by rfl) (by rfl) hA.out (hGs.out _ _) (hGZ.out _ _) (hGo.out _ _) ?_
     intro wn hA1 hbut hbel
     refine hK.out _ _ ?_
     have hR:=Lib.hid (own_move hR.out (fun k hk=>hbut.2 k (hR.out.lt k hk).2 (fun e=>own_ne hR.out hA.out (by decide) k hk e)))
     have hfin:SlMid w X (.pointer (some ⟨g4,0,none⟩)) wn:=⟨g4,AX,cX,rfl,by rw[hA1,hG'.out],by rw[hXl.out];exact hR.out,hg.out,by rw[← hZ'.out];exact (hbut.2 _ (lt_of_heap hHeld.2) (Nat.ne_of_lt hg.out)).trans hHeld.2,hHeld.1.trans (hbel _ (Nat.le_of_lt hg.out))⟩
     have hfin':=Lib.hid hfin
     clear hA1 hbut hbel hfin
     clear hK K;refine done_ (by kernel_rfl) ?_
     go_step;go_step
     go_meet
     exact hfin'.out
    refine step_alloc 25 Z (by rfl) rfl (by rfl) hz ?_
    intro g4 wn hA0 hg4 hb
    have hg:=Lib.hid (Nat.lt_of_lt_of_le (lt_of_heap hHeld.2) hg4)
    have hA:=Lib.hid hA0
    refine hK.out _ _ ⟨below_step hHeld.1 hb,heap_below hHeld.2 hb⟩ (fun hHeld=>?_)
    (try have hE:=Lib.hid (own_move hE.out (fun k hk=>hb.block k (hE.out.lt k hk).2)))
    (try have hR:=Lib.hid (own_move hR.out (fun k hk=>hb.block k (hR.out.lt k hk).2)))
    clear hb hA0 hg4
    clear hK K;refine norm_ (a':=?_) ?_ ?_
    rotate_left
    ·show Act.put _ (some 4) _=_
     simp only[Act.put,sZ0,sZ1,sZ2,i64_w,i32_w];rfl
    refine one_ (i:=6) (N:=some 19) #[true,true,true,true,true,true,true,true,true,false,true,true,true,false,false,true,false] rfl rfl (by kernel_rfl) (by decide) (fun K hK=>?_)
    refine goes_ Try.func49 (by kernel_rfl) rfl #[.slice A8 8 (c - 8)] (by rfl) rfl rfl (by (try simp only[List.map_toArray,List.map_cons,List.map_nil]);first | done | rfl) ?_
    refine (n8.out _ hHeld.1).mono ?_
    rintro e wn ⟨rfl,hd⟩
    have hb:=drawn_below hd
    refine ⟨_,rfl,?_⟩
    refine hK.out _ _ ⟨below_step hHeld.1 hb,heap_below hHeld.2 hb⟩ (fun hHeld=>?_)
    (try have hE:=Lib.hid (own_move hE.out (fun k hk=>hb.block k (hE.out.lt k hk).2)))
    (try have hA:=Lib.hid (heap_below hA.out hb))
    clear hb hd
    clear hK K;refine norm_ (a':=?_) ?_ ?_
    rotate_left
    ·show Act.put _ (some 19) _=_
     simp only[Act.put,sZ0,sZ1,sZ2,i64_w,i32_w];rfl
    refine one_ (i:=9) (N:=some 22) #[true,true,true,true,true,true,true,true,true,true,true,true,true,false,false,true,false] rfl rfl (by kernel_rfl) (by decide) (fun K hK=>?_)
    refine goes_ Try.func49 (by kernel_rfl) rfl #[.slice A16 8 (c - 16)] (by rfl) rfl rfl (by (try simp only[List.map_toArray,List.map_cons,List.map_nil]);first | done | rfl) ?_
    refine (n16.out _ hHeld.1).mono ?_
    rintro e wn ⟨rfl,hd⟩
    have hb:=drawn_below hd
    refine ⟨_,rfl,?_⟩
    refine hK.out _ _ ⟨below_step hHeld.1 hb,heap_below hHeld.2 hb⟩ (fun hHeld=>?_)
    (try have hE:=Lib.hid (own_move hE.out (fun k hk=>hb.block k (hE.out.lt k hk).2)))
    (try have hA:=Lib.hid (heap_below hA.out hb))
    clear hb hd
    clear hK K;refine norm_ (a':=?_) ?_ ?_
    rotate_left
    ·show Act.put _ (some 22) _=_
     simp only[Act.put,sZ0,sZ1,sZ2,i64_w,i32_w];rfl
    refine one_ (i:=13) (N:=some 26) #[true,true,true,true,true,true,true,true,true,true,true,true,true,true,false,true,false] rfl rfl (by kernel_rfl) (by decide) (fun K hK=>?_)
    refine step_append0 w.heap.size (.tmp 23) (.tmp 25) 23 (.slice (some ⟨gE,0,none⟩) 0 0) (.slice A24 104 (c - 24)) L24 (by rfl) rfl (by rfl) (by rfl) (by rfl) (hsrc.out _ hHeld.1) hE.out hHeld.1.size (by have:=hl24.out;omega) ?_
    intro AX cX wn hR0 hgr hbg
    (try have hA:=Lib.hid (blk_grown hA.out hgr (fun e=>own_ne hE.out hA.out (by decide) _ e.symm rfl)))
    refine hK.out _ _ ⟨hbg _ _ (Nat.le_refl _) hHeld.1,blk_grown hHeld.2 hgr (fun e=>own_ne hE.out hHeld.2 (by decide) _ e.symm rfl)⟩ (fun hHeld=>?_)
    have hR:=Lib.hid hR0
    clear hgr hbg hR0
    clear hK K;refine norm_ (a':=?_) ?_ ?_
    rotate_left
    ·show Act.put _ (some 26) _=_
     simp only[Act.put,sZ0,sZ1,sZ2,i64_w,i32_w];rfl
    refine pure_ (i:=14) (N:=some 27) (v:=?_) (a':=?_) #[true,true,true,true,true,true,true,true,true,true,true,true,true,true,true,true,false] rfl rfl (by kernel_rfl) (fun _ _ _ h=>h) (Or.inl ⟨by rfl,?_⟩) ?_ ?_
    rotate_left
    ·intro w'
     have hq:=hGb.out AX cX w';go_simp;with_reducible rfl
    rotate_left
    ·simp only[Act.put,sZ0,sZ1,sZ2,i64_w,i32_w];rfl
    refine last_ (i:=16) (N:=none) #[true,true,true,true,true,true,true,true,true,true,true,true,true,true,true,true,true] rfl rfl (by kernel_rfl) (by decide) (fun K hK=>?_)
    refine step_store 25 (.tmp 4) (.tmp 27) g4 (G AX cX) 25 Z (by rfl) rfl (by rfl) (by rfl) (by rfl) hA.out (hGs.out _ _) (hGZ.out _ _) (hGo.out _ _) ?_
    intro wn hA1 hbut hbel
    refine hK.out _ _ ?_
    have hR:=Lib.hid (own_move hR.out (fun k hk=>hbut.2 k (hR.out.lt k hk).2 (fun e=>own_ne hR.out hA.out (by decide) k hk e)))
    have hfin:SlMid w X (.pointer (some ⟨g4,0,none⟩)) wn:=⟨g4,AX,cX,rfl,by rw[hA1,hG'.out],by rw[hXl.out];exact hR.out,hg.out,by rw[← hZ'.out];exact (hbut.2 _ (lt_of_heap hHeld.2) (Nat.ne_of_lt hg.out)).trans hHeld.2,hHeld.1.trans (hbel _ (Nat.le_of_lt hg.out))⟩
    have hfin':=Lib.hid hfin
    clear hA1 hbut hbel hfin
    clear hK K;refine done_ (by kernel_rfl) ?_
    go_step;go_step
    go_meet
    exact hfin'.out
   refine step_alloc 25 Z (by rfl) rfl (by rfl) hz ?_
   intro g4 wn hA0 hg4 hb
   have hg:=Lib.hid (Nat.lt_of_lt_of_le (lt_of_heap hHeld.2) hg4)
   have hA:=Lib.hid hA0
   refine hK.out _ _ ⟨below_step hHeld.1 hb,heap_below hHeld.2 hb⟩ (fun hHeld=>?_)
   (try have hE:=Lib.hid (own_move hE.out (fun k hk=>hb.block k (hE.out.lt k hk).2)))
   (try have hR:=Lib.hid (own_move hR.out (fun k hk=>hb.block k (hR.out.lt k hk).2)))
   clear hb hA0 hg4
   clear hK K;refine norm_ (a':=?_) ?_ ?_
   rotate_left
   ·show Act.put _ (some 4) _=_
    simp only[Act.put,sZ0,sZ1,sZ2,i64_w,i32_w];rfl
   refine two_ (i:=6) (Ni:=some 19) (j:=10) (Nj:=some 23) #[true,true,true,true,true,true,true,true,true,false,false,true,true,false,false,true,false] #[true,true,true,true,true,true,false,true,true,false,true,true,true,false,false,true,false] rfl rfl rfl rfl (by kernel_rfl) (by decide) (by decide) (fun K hK=>?_) (fun K hK=>?_)
   ·skip
    refine goes_ Try.func49 (by kernel_rfl) rfl #[.slice A8 8 (c - 8)] (by rfl) rfl rfl (by (try simp only[List.map_toArray,List.map_cons,List.map_nil]);first | done | rfl) ?_
    refine (n8.out _ hHeld.1).mono ?_
    rintro e wn ⟨rfl,hd⟩
    have hb:=drawn_below hd
    refine ⟨_,rfl,?_⟩
    refine hK.out _ _ ⟨below_step hHeld.1 hb,heap_below hHeld.2 hb⟩ (fun hHeld=>?_)
    (try have hE:=Lib.hid (own_move hE.out (fun k hk=>hb.block k (hE.out.lt k hk).2)))
    (try have hA:=Lib.hid (heap_below hA.out hb))
    clear hb hd
    clear hK K;refine norm_ (a':=?_) ?_ ?_
    rotate_left
    ·show Act.put _ (some 19) _=_
     simp only[Act.put,sZ0,sZ1,sZ2,i64_w,i32_w];rfl
    refine two_ (i:=9) (Ni:=some 22) (j:=10) (Nj:=some 23) #[true,true,true,true,true,true,true,true,true,true,false,true,true,false,false,true,false] #[true,true,true,true,true,true,true,true,true,false,true,true,true,false,false,true,false] rfl rfl rfl rfl (by kernel_rfl) (by decide) (by decide) (fun K hK=>?_) (fun K hK=>?_)
    ·skip
     refine goes_ Try.func49 (by kernel_rfl) rfl #[.slice A16 8 (c - 16)] (by rfl) rfl rfl (by (try simp only[List.map_toArray,List.map_cons,List.map_nil]);first | done | rfl) ?_
     refine (n16.out _ hHeld.1).mono ?_
     rintro e wn ⟨rfl,hd⟩
     have hb:=drawn_below hd
     refine ⟨_,rfl,?_⟩
     refine hK.out _ _ ⟨below_step hHeld.1 hb,heap_below hHeld.2 hb⟩ (fun hHeld=>?_)
     (try have hE:=Lib.hid (own_move hE.out (fun k hk=>hb.block k (hE.out.lt k hk).2)))
     (try have hA:=Lib.hid (heap_below hA.out hb))
     clear hb hd
     clear hK K;refine norm_ (a':=?_) ?_ ?_
     rotate_left
     ·show Act.put _ (some 22) _=_
      simp only[Act.put,sZ0,sZ1,sZ2,i64_w,i32_w];rfl
     refine one_ (i:=10) (N:=some 23) #[true,true,true,true,true,true,true,true,true,true,true,true,true,false,false,true,false] rfl rfl (by kernel_rfl) (by decide) (fun K hK=>?_)
     refine step_empty 23 5 (by rfl) rfl (by rfl) Try.underlying23 size5' ?_
     intro gE wn hE0 hb
     have hE:=Lib.hid (own_less hE0 hHeld.1.size)
     refine hK.out _ _ ⟨below_step hHeld.1 hb,heap_below hHeld.2 hb⟩ (fun hHeld=>?_)
     (try have hA:=Lib.hid (heap_below hA.out hb))
     clear hb hE0
     clear hK K;refine norm_ (a':=?_) ?_ ?_
     rotate_left
     ·show Act.put _ (some 23) _=_
      simp only[Act.put,sZ0,sZ1,sZ2,i64_w,i32_w];rfl
     refine one_ (i:=13) (N:=some 26) #[true,true,true,true,true,true,true,true,true,true,true,true,true,true,false,true,false] rfl rfl (by kernel_rfl) (by decide) (fun K hK=>?_)
     refine step_append0 w.heap.size (.tmp 23) (.tmp 25) 23 (.slice (some ⟨gE,0,none⟩) 0 0) (.slice A24 104 (c - 24)) L24 (by rfl) rfl (by rfl) (by rfl) (by rfl) (hsrc.out _ hHeld.1) hE.out hHeld.1.size (by have:=hl24.out;omega) ?_
     intro AX cX wn hR0 hgr hbg
     (try have hA:=Lib.hid (blk_grown hA.out hgr (fun e=>own_ne hE.out hA.out (by decide) _ e.symm rfl)))
     refine hK.out _ _ ⟨hbg _ _ (Nat.le_refl _) hHeld.1,blk_grown hHeld.2 hgr (fun e=>own_ne hE.out hHeld.2 (by decide) _ e.symm rfl)⟩ (fun hHeld=>?_)
     have hR:=Lib.hid hR0
     clear hgr hbg hR0
     clear hK K;refine norm_ (a':=?_) ?_ ?_
     rotate_left
     ·show Act.put _ (some 26) _=_
      simp only[Act.put,sZ0,sZ1,sZ2,i64_w,i32_w];rfl
     refine pure_ (i:=14) (N:=some 27) (v:=?_) (a':=?_) #[true,true,true,true,true,true,true,true,true,true,true,true,true,true,true,true,false] rfl rfl (by kernel_rfl) (fun _ _ _ h=>h) (Or.inl ⟨by rfl,?_⟩) ?_ ?_
     rotate_left
     ·intro w'
      have hq:=hGb.out AX cX w';go_simp;with_reducible rfl
     rotate_left
     ·simp only[Act.put,sZ0,sZ1,sZ2,i64_w,i32_w];rfl
     refine last_ (i:=16) (N:=none) #[true,true,true,true,true,true,true,true,true,true,true,true,true,true,true,true,true] rfl rfl (by kernel_rfl) (by decide) (fun K hK=>?_)
     refine step_store 25 (.tmp 4) (.tmp 27) g4 (G AX cX) 25 Z (by rfl) rfl (by rfl) (by rfl) (by rfl) hA.out (hGs.out _ _) (hGZ.out _ _) (hGo.out _ _) ?_
     intro wn hA1 hbut hbel
     refine hK.out _ _ ?_
     have hR:=Lib.hid (own_move hR.out (fun k hk=>hbut.2 k (hR.out.lt k hk).2 (fun e=>own_ne hR.out hA.out (by decide) k hk e)))
     have hfin:SlMid w X (.pointer (some ⟨g4,0,none⟩)) wn:=⟨g4,AX,cX,rfl,by rw[hA1,hG'.out],by rw[hXl.out];exact hR.out,hg.out,by rw[← hZ'.out];exact (hbut.2 _ (lt_of_heap hHeld.2) (Nat.ne_of_lt hg.out)).trans hHeld.2,hHeld.1.trans (hbel _ (Nat.le_of_lt hg.out))⟩
     have hfin':=Lib.hid hfin
     clear hA1 hbut hbel hfin
     clear hK K;refine done_ (by kernel_rfl) ?_
     go_step;go_step
     go_meet
     exact hfin'.out
    refine step_empty 23 5 (by rfl) rfl (by rfl) Try.underlying23 size5' ?_
    intro gE wn hE0 hb
    have hE:=Lib.hid (own_less hE0 hHeld.1.size)
    refine hK.out _ _ ⟨below_step hHeld.1 hb,heap_below hHeld.2 hb⟩ (fun hHeld=>?_)
    (try have hA:=Lib.hid (heap_below hA.out hb))
    clear hb hE0
    clear hK K;refine norm_ (a':=?_) ?_ ?_
    rotate_left
    ·show Act.put _ (some 23) _=_
     simp only[Act.put,sZ0,sZ1,sZ2,i64_w,i32_w];rfl
    refine one_ (i:=9) (N:=some 22) #[true,true,true,true,true,true,true,true,true,true,true,true,true,false,false,true,false] rfl rfl (by kernel_rfl) (by decide) (fun K hK=>?_)
    refine goes_ Try.func49 (by kernel_rfl) rfl #[.slice A16 8 (c - 16)] (by rfl) rfl rfl (by (try simp only[List.map_toArray,List.map_cons,List.map_nil]);first | done | rfl) ?_
    refine (n16.out _ hHeld.1).mono ?_
    rintro e wn ⟨rfl,hd⟩
    have hb:=drawn_below hd
    refine ⟨_,rfl,?_⟩
    refine hK.out _ _ ⟨below_step hHeld.1 hb,heap_below hHeld.2 hb⟩ (fun hHeld=>?_)
    (try have hE:=Lib.hid (own_move hE.out (fun k hk=>hb.block k (hE.out.lt k hk).2)))
    (try have hA:=Lib.hid (heap_below hA.out hb))
    clear hb hd
    clear hK K;refine norm_ (a':=?_) ?_ ?_
    rotate_left
    ·show Act.put _ (some 22) _=_
     simp only[Act.put,sZ0,sZ1,sZ2,i64_w,i32_w];rfl
    refine one_ (i:=13) (N:=some 26) #[true,true,true,true,true,true,true,true,true,true,true,true,true,true,false,true,false] rfl rfl (by kernel_rfl) (by decide) (fun K hK=>?_)
    refine step_append0 w.heap.size (.tmp 23) (.tmp 25) 23 (.slice (some ⟨gE,0,none⟩) 0 0) (.slice A24 104 (c - 24)) L24 (by rfl) rfl (by rfl) (by rfl) (by rfl) (hsrc.out _ hHeld.1) hE.out hHeld.1.size (by have:=hl24.out;omega) ?_
    intro AX cX wn hR0 hgr hbg
    (try have hA:=Lib.hid (blk_grown hA.out hgr (fun e=>own_ne hE.out hA.out (by decide) _ e.symm rfl)))
    refine hK.out _ _ ⟨hbg _ _ (Nat.le_refl _) hHeld.1,blk_grown hHeld.2 hgr (fun e=>own_ne hE.out hHeld.2 (by decide) _ e.symm rfl)⟩ (fun hHeld=>?_)
    have hR:=Lib.hid hR0
    clear hgr hbg hR0
    clear hK K;refine norm_ (a':=?_) ?_ ?_
    rotate_left
    ·show Act.put _ (some 26) _=_
     simp only[Act.put,sZ0,sZ1,sZ2,i64_w,i32_w];rfl
    refine pure_ (i:=14) (N:=some 27) (v:=?_) (a':=?_) #[true,true,true,true,true,true,true,true,true,true,true,true,true,true,true,true,false] rfl rfl (by kernel_rfl) (fun _ _ _ h=>h) (Or.inl ⟨by rfl,?_⟩) ?_ ?_
    rotate_left
    ·intro w'
     have hq:=hGb.out AX cX w';go_simp;with_reducible rfl
    rotate_left
    ·simp only[Act.put,sZ0,sZ1,sZ2,i64_w,i32_w];rfl
    refine last_ (i:=16) (N:=none) #[true,true,true,true,true,true,true,true,true,true,true,true,true,true,true,true,true] rfl rfl (by kernel_rfl) (by decide) (fun K hK=>?_)
    refine step_store 25 (.tmp 4) (.tmp 27) g4 (G AX cX) 25 Z (by rfl) rfl (by rfl) (by rfl) (by rfl) hA.out (hGs.out _ _) (hGZ.out _ _) (hGo.out _ _) ?_
    intro wn hA1 hbut hbel
    refine hK.out _ _ ?_
    have hR:=Lib.hid (own_move hR.out (fun k hk=>hbut.2 k (hR.out.lt k hk).2 (fun e=>own_ne hR.out hA.out (by decide) k hk e)))
    have hfin:SlMid w X (.pointer (some ⟨g4,0,none⟩)) wn:=⟨g4,AX,cX,rfl,by rw[hA1,hG'.out],by rw[hXl.out];exact hR.out,hg.out,by rw[← hZ'.out];exact (hbut.2 _ (lt_of_heap hHeld.2) (Nat.ne_of_lt hg.out)).trans hHeld.2,hHeld.1.trans (hbel _ (Nat.le_of_lt hg.out))⟩
    have hfin':=Lib.hid hfin
    clear hA1 hbut hbel hfin
    clear hK K;refine done_ (by kernel_rfl) ?_
    go_step;go_step
    go_meet
    exact hfin'.out
   refine step_empty 23 5 (by rfl) rfl (by rfl) Try.underlying23 size5' ?_
   intro gE wn hE0 hb
   have hE:=Lib.hid (own_less hE0 hHeld.1.size)
   refine hK.out _ _ ⟨below_step hHeld.1 hb,heap_below hHeld.2 hb⟩ (fun hHeld=>?_)
   (try have hA:=Lib.hid (heap_below hA.out hb))
   clear hb hE0
   clear hK K;refine norm_ (a':=?_) ?_ ?_
   rotate_left
   ·show Act.put _ (some 23) _=_
    simp only[Act.put,sZ0,sZ1,sZ2,i64_w,i32_w];rfl
   refine one_ (i:=6) (N:=some 19) #[true,true,true,true,true,true,true,true,true,false,true,true,true,false,false,true,false] rfl rfl (by kernel_rfl) (by decide) (fun K hK=>?_)
   refine goes_ Try.func49 (by kernel_rfl) rfl #[.slice A8 8 (c - 8)] (by rfl) rfl rfl (by (try simp only[List.map_toArray,List.map_cons,List.map_nil]);first | done | rfl) ?_
   refine (n8.out _ hHeld.1).mono ?_
   rintro e wn ⟨rfl,hd⟩
   have hb:=drawn_below hd
   refine ⟨_,rfl,?_⟩
   refine hK.out _ _ ⟨below_step hHeld.1 hb,heap_below hHeld.2 hb⟩ (fun hHeld=>?_)
   (try have hE:=Lib.hid (own_move hE.out (fun k hk=>hb.block k (hE.out.lt k hk).2)))
   (try have hA:=Lib.hid (heap_below hA.out hb))
   clear hb hd
   clear hK K;refine norm_ (a':=?_) ?_ ?_
   rotate_left
   ·show Act.put _ (some 19) _=_
    simp only[Act.put,sZ0,sZ1,sZ2,i64_w,i32_w];rfl
   refine one_ (i:=9) (N:=some 22) #[true,true,true,true,true,true,true,true,true,true,true,true,true,false,false,true,false] rfl rfl (by kernel_rfl) (by decide) (fun K hK=>?_)
   refine goes_ Try.func49 (by kernel_rfl) rfl #[.slice A16 8 (c - 16)] (by rfl) rfl rfl (by (try simp only[List.map_toArray,List.map_cons,List.map_nil]);first | done | rfl) ?_
   refine (n16.out _ hHeld.1).mono ?_
   rintro e wn ⟨rfl,hd⟩
   have hb:=drawn_below hd
   refine ⟨_,rfl,?_⟩
   refine hK.out _ _ ⟨below_step hHeld.1 hb,heap_below hHeld.2 hb⟩ (fun hHeld=>?_)
   (try have hE:=Lib.hid (own_move hE.out (fun k hk=>hb.block k (hE.out.lt k hk).2)))
   (try have hA:=Lib.hid (heap_below hA.out hb))
   clear hb hd
   clear hK K;refine norm_ (a':=?_) ?_ ?_
   rotate_left
   ·show Act.put _ (some 22) _=_
    simp only[Act.put,sZ0,sZ1,sZ2,i64_w,i32_w];rfl
   refine one_ (i:=13) (N:=some 26) #[true,true,true,true,true,true,true,true,true,true,true,true,true,true,false,true,false] rfl rfl (by kernel_rfl) (by decide) (fun K hK=>?_)
   refine step_append0 w.heap.size (.tmp 23) (.tmp 25) 23 (.slice (some ⟨gE,0,none⟩) 0 0) (.slice A24 104 (c - 24)) L24 (by rfl) rfl (by rfl) (by rfl) (by rfl) (hsrc.out _ hHeld.1) hE.out hHeld.1.size (by have:=hl24.out;omega) ?_
   intro AX cX wn hR0 hgr hbg
   (try have hA:=Lib.hid (blk_grown hA.out hgr (fun e=>own_ne hE.out hA.out (by decide) _ e.symm rfl)))
   refine hK.out _ _ ⟨hbg _ _ (Nat.le_refl _) hHeld.1,blk_grown hHeld.2 hgr (fun e=>own_ne hE.out hHeld.2 (by decide) _ e.symm rfl)⟩ (fun hHeld=>?_)
   have hR:=Lib.hid hR0
   clear hgr hbg hR0
   clear hK K;refine norm_ (a':=?_) ?_ ?_
   rotate_left
   ·show Act.put _ (some 26) _=_
    simp only[Act.put,sZ0,sZ1,sZ2,i64_w,i32_w];rfl
   refine pure_ (i:=14) (N:=some 27) (v:=?_) (a':=?_) #[true,true,true,true,true,true,true,true,true,true,true,true,true,true,true,true,false] rfl rfl (by kernel_rfl) (fun _ _ _ h=>h) (Or.inl ⟨by rfl,?_⟩) ?_ ?_
   rotate_left
   ·intro w'
    have hq:=hGb.out AX cX w';go_simp;with_reducible rfl
   rotate_left
   ·simp only[Act.put,sZ0,sZ1,sZ2,i64_w,i32_w];rfl
   refine last_ (i:=16) (N:=none) #[true,true,true,true,true,true,true,true,true,true,true,true,true,true,true,true,true] rfl rfl (by kernel_rfl) (by decide) (fun K hK=>?_)
   refine step_store 25 (.tmp 4) (.tmp 27) g4 (G AX cX) 25 Z (by rfl) rfl (by rfl) (by rfl) (by rfl) hA.out (hGs.out _ _) (hGZ.out _ _) (hGo.out _ _) ?_
   intro wn hA1 hbut hbel
   refine hK.out _ _ ?_
   have hR:=Lib.hid (own_move hR.out (fun k hk=>hbut.2 k (hR.out.lt k hk).2 (fun e=>own_ne hR.out hA.out (by decide) k hk e)))
   have hfin:SlMid w X (.pointer (some ⟨g4,0,none⟩)) wn:=⟨g4,AX,cX,rfl,by rw[hA1,hG'.out],by rw[hXl.out];exact hR.out,hg.out,by rw[← hZ'.out];exact (hbut.2 _ (lt_of_heap hHeld.2) (Nat.ne_of_lt hg.out)).trans hHeld.2,hHeld.1.trans (hbel _ (Nat.le_of_lt hg.out))⟩
   have hfin':=Lib.hid hfin
   clear hA1 hbut hbel hfin
   clear hK K;refine done_ (by kernel_rfl) ?_
   go_step;go_step
   go_meet
   exact hfin'.out
  ·skip
   refine step_empty 23 5 (by rfl) rfl (by rfl) Try.underlying23 size5' ?_
   intro gE wn hE0 hb
   have hE:=Lib.hid (own_less hE0 hHeld.1.size)
   refine hK.out _ _ ⟨below_step hHeld.1 hb,heap_below hHeld.2 hb⟩ (fun hHeld=>?_)
   (try have hA:=Lib.hid (heap_below hA.out hb))
   clear hb hE0
   clear hK K;refine norm_ (a':=?_) ?_ ?_
   rotate_left
   ·show Act.put _ (some 23) _=_
    simp only[Act.put,sZ0,sZ1,sZ2,i64_w,i32_w];rfl
   refine two_ (i:=2) (Ni:=some 15) (j:=15) (Nj:=some 4) #[true,true,true,false,true,true,false,true,true,false,true,true,true,false,false,false,false] #[true,true,false,false,true,true,false,true,true,false,true,true,true,false,false,true,false] rfl rfl rfl rfl (by kernel_rfl) (by decide) (by decide) (fun K hK=>?_) (fun K hK=>?_)
   ·skip
    refine goes_ Try.func49 (by kernel_rfl) rfl #[.slice A4 4 (c - 4)] (by rfl) rfl rfl (by (try simp only[List.map_toArray,List.map_cons,List.map_nil]);first | done | rfl) ?_
    refine (n4.out _ hHeld.1).mono ?_
    rintro e wn ⟨rfl,hd⟩
    have hb:=drawn_below hd
    refine ⟨_,rfl,?_⟩
    refine hK.out _ _ ⟨below_step hHeld.1 hb,heap_below hHeld.2 hb⟩ (fun hHeld=>?_)
    (try have hE:=Lib.hid (own_move hE.out (fun k hk=>hb.block k (hE.out.lt k hk).2)))
    (try have hA:=Lib.hid (heap_below hA.out hb))
    clear hb hd
    clear hK K;refine norm_ (a':=?_) ?_ ?_
    rotate_left
    ·show Act.put _ (some 15) _=_
     simp only[Act.put,sZ0,sZ1,sZ2,i64_w,i32_w];rfl
    refine pure_ (i:=3) (N:=some 16) (v:=?_) (a':=?_) #[true,true,true,true,true,true,false,true,true,false,true,true,true,false,false,false,false] rfl rfl (by kernel_rfl) (fun _ _ _ h=>h) (Or.inl ⟨by rfl,?_⟩) ?_ ?_
    rotate_left
    ·intro w';go_simp;with_reducible rfl
    rotate_left
    ·simp only[Act.put,sZ0,sZ1,sZ2,i64_w,i32_w];rfl
    refine two_ (i:=6) (Ni:=some 19) (j:=15) (Nj:=some 4) #[true,true,true,true,true,true,true,true,true,false,true,true,true,false,false,false,false] #[true,true,true,true,true,true,false,true,true,false,true,true,true,false,false,true,false] rfl rfl rfl rfl (by kernel_rfl) (by decide) (by decide) (fun K hK=>?_) (fun K hK=>?_)
    ·skip
     refine goes_ Try.func49 (by kernel_rfl) rfl #[.slice A8 8 (c - 8)] (by rfl) rfl rfl (by (try simp only[List.map_toArray,List.map_cons,List.map_nil]);first | done | rfl) ?_
     refine (n8.out _ hHeld.1).mono ?_
     rintro e wn ⟨rfl,hd⟩
     have hb:=drawn_below hd
     refine ⟨_,rfl,?_⟩
     refine hK.out _ _ ⟨below_step hHeld.1 hb,heap_below hHeld.2 hb⟩ (fun hHeld=>?_)
     (try have hE:=Lib.hid (own_move hE.out (fun k hk=>hb.block k (hE.out.lt k hk).2)))
     (try have hA:=Lib.hid (heap_below hA.out hb))
     clear hb hd
     clear hK K;refine norm_ (a':=?_) ?_ ?_
     rotate_left
     ·show Act.put _ (some 19) _=_
      simp only[Act.put,sZ0,sZ1,sZ2,i64_w,i32_w];rfl
     refine two_ (i:=9) (Ni:=some 22) (j:=15) (Nj:=some 4) #[true,true,true,true,true,true,true,true,true,true,true,true,true,false,false,false,false] #[true,true,true,true,true,true,true,true,true,false,true,true,true,false,false,true,false] rfl rfl rfl rfl (by kernel_rfl) (by decide) (by decide) (fun K hK=>?_) (fun K hK=>?_)
     ·skip
      refine goes_ Try.func49 (by kernel_rfl) rfl #[.slice A16 8 (c - 16)] (by rfl) rfl rfl (by (try simp only[List.map_toArray,List.map_cons,List.map_nil]);first | done | rfl) ?_
      refine (n16.out _ hHeld.1).mono ?_
      rintro e wn ⟨rfl,hd⟩
      have hb:=drawn_below hd
      refine ⟨_,rfl,?_⟩
      refine hK.out _ _ ⟨below_step hHeld.1 hb,heap_below hHeld.2 hb⟩ (fun hHeld=>?_)
      (try have hE:=Lib.hid (own_move hE.out (fun k hk=>hb.block k (hE.out.lt k hk).2)))
      (try have hA:=Lib.hid (heap_below hA.out hb))
      clear hb hd
      clear hK K;refine norm_ (a':=?_) ?_ ?_
      rotate_left
      ·show Act.put _ (some 22) _=_
       simp only[Act.put,sZ0,sZ1,sZ2,i64_w,i32_w];rfl
      refine two_ (i:=13) (Ni:=some 26) (j:=15) (Nj:=some 4) #[true,true,true,true,true,true,true,true,true,true,true,true,true,true,false,false,false] #[true,true,true,true,true,true,true,true,true,true,true,true,true,false,false,true,false] rfl rfl rfl rfl (by kernel_rfl) (by decide) (by decide) (fun K hK=>?_) (fun K hK=>?_)
      ·skip
       refine step_append0 w.heap.size (.tmp 23) (.tmp 25) 23 (.slice (some ⟨gE,0,none⟩) 0 0) (.slice A24 104 (c - 24)) L24 (by rfl) rfl (by rfl) (by rfl) (by rfl) (hsrc.out _ hHeld.1) hE.out hHeld.1.size (by have:=hl24.out;omega) ?_
       intro AX cX wn hR0 hgr hbg
       (try have hA:=Lib.hid (blk_grown hA.out hgr (fun e=>own_ne hE.out hA.out (by decide) _ e.symm rfl)))
       refine hK.out _ _ ⟨hbg _ _ (Nat.le_refl _) hHeld.1,blk_grown hHeld.2 hgr (fun e=>own_ne hE.out hHeld.2 (by decide) _ e.symm rfl)⟩ (fun hHeld=>?_)
       have hR:=Lib.hid hR0
       clear hgr hbg hR0
       clear hK K;refine norm_ (a':=?_) ?_ ?_
       rotate_left
       ·show Act.put _ (some 26) _=_
        simp only[Act.put,sZ0,sZ1,sZ2,i64_w,i32_w];rfl
       refine pure_ (i:=14) (N:=some 27) (v:=?_) (a':=?_) #[true,true,true,true,true,true,true,true,true,true,true,true,true,true,true,false,false] rfl rfl (by kernel_rfl) (fun _ _ _ h=>h) (Or.inl ⟨by rfl,?_⟩) ?_ ?_
       rotate_left
       ·intro w'
        have hq:=hGb.out AX cX w';go_simp;with_reducible rfl
       rotate_left
       ·simp only[Act.put,sZ0,sZ1,sZ2,i64_w,i32_w];rfl
       refine one_ (i:=15) (N:=some 4) #[true,true,true,true,true,true,true,true,true,true,true,true,true,true,true,true,false] rfl rfl (by kernel_rfl) (by decide) (fun K hK=>?_)
       refine step_alloc 25 Z (by rfl) rfl (by rfl) hz ?_
       intro g4 wn hA0 hg4 hb
       have hg:=Lib.hid (Nat.lt_of_lt_of_le (lt_of_heap hHeld.2) hg4)
       have hA:=Lib.hid hA0
       refine hK.out _ _ ⟨below_step hHeld.1 hb,heap_below hHeld.2 hb⟩ (fun hHeld=>?_)
       (try have hE:=Lib.hid (own_move hE.out (fun k hk=>hb.block k (hE.out.lt k hk).2)))
       (try have hR:=Lib.hid (own_move hR.out (fun k hk=>hb.block k (hR.out.lt k hk).2)))
       clear hb hA0 hg4
       clear hK K;refine norm_ (a':=?_) ?_ ?_
       rotate_left
       ·show Act.put _ (some 4) _=_
        simp only[Act.put,sZ0,sZ1,sZ2,i64_w,i32_w];rfl
       refine last_ (i:=16) (N:=none) #[true,true,true,true,true,true,true,true,true,true,true,true,true,true,true,true,true] rfl rfl (by kernel_rfl) (by decide) (fun K hK=>?_)
       refine step_store 25 (.tmp 4) (.tmp 27) g4 (G AX cX) 25 Z (by rfl) rfl (by rfl) (by rfl) (by rfl) hA.out (hGs.out _ _) (hGZ.out _ _) (hGo.out _ _) ?_
       intro wn hA1 hbut hbel
       refine hK.out _ _ ?_
       have hR:=Lib.hid (own_move hR.out (fun k hk=>hbut.2 k (hR.out.lt k hk).2 (fun e=>own_ne hR.out hA.out (by decide) k hk e)))
       have hfin:SlMid w X (.pointer (some ⟨g4,0,none⟩)) wn:=⟨g4,AX,cX,rfl,by rw[hA1,hG'.out],by rw[hXl.out];exact hR.out,hg.out,by rw[← hZ'.out];exact (hbut.2 _ (lt_of_heap hHeld.2) (Nat.ne_of_lt hg.out)).trans hHeld.2,hHeld.1.trans (hbel _ (Nat.le_of_lt hg.out))⟩
       have hfin':=Lib.hid hfin
       clear hA1 hbut hbel hfin
       clear hK K;refine done_ (by kernel_rfl) ?_
       go_step;go_step
       go_meet
       exact hfin'.out
      refine step_alloc 25 Z (by rfl) rfl (by rfl) hz ?_
      intro g4 wn hA0 hg4 hb
      have hg:=Lib.hid (Nat.lt_of_lt_of_le (lt_of_heap hHeld.2) hg4)
      have hA:=Lib.hid hA0
      refine hK.out _ _ ⟨below_step hHeld.1 hb,heap_below hHeld.2 hb⟩ (fun hHeld=>?_)
      (try have hE:=Lib.hid (own_move hE.out (fun k hk=>hb.block k (hE.out.lt k hk).2)))
      (try have hR:=Lib.hid (own_move hR.out (fun k hk=>hb.block k (hR.out.lt k hk).2)))
      clear hb hA0 hg4
      clear hK K;refine norm_ (a':=?_) ?_ ?_
      rotate_left
      ·show Act.put _ (some 4) _=_
       simp only[Act.put,sZ0,sZ1,sZ2,i64_w,i32_w];rfl
      refine one_ (i:=13) (N:=some 26) #[true,true,true,true,true,true,true,true,true,true,true,true,true,true,false,true,false] rfl rfl (by kernel_rfl) (by decide) (fun K hK=>?_)
      refine step_append0 w.heap.size (.tmp 23) (.tmp 25) 23 (.slice (some ⟨gE,0,none⟩) 0 0) (.slice A24 104 (c - 24)) L24 (by rfl) rfl (by rfl) (by rfl) (by rfl) (hsrc.out _ hHeld.1) hE.out hHeld.1.size (by have:=hl24.out;omega) ?_
      intro AX cX wn hR0 hgr hbg
      (try have hA:=Lib.hid (blk_grown hA.out hgr (fun e=>own_ne hE.out hA.out (by decide) _ e.symm rfl)))
      refine hK.out _ _ ⟨hbg _ _ (Nat.le_refl _) hHeld.1,blk_grown hHeld.2 hgr (fun e=>own_ne hE.out hHeld.2 (by decide) _ e.symm rfl)⟩ (fun hHeld=>?_)
      have hR:=Lib.hid hR0
      clear hgr hbg hR0
      clear hK K;refine norm_ (a':=?_) ?_ ?_
      rotate_left
      ·show Act.put _ (some 26) _=_
       simp only[Act.put,sZ0,sZ1,sZ2,i64_w,i32_w];rfl
      refine pure_ (i:=14) (N:=some 27) (v:=?_) (a':=?_) #[true,true,true,true,true,true,true,true,true,true,true,true,true,true,true,true,false] rfl rfl (by kernel_rfl) (fun _ _ _ h=>h) (Or.inl ⟨by rfl,?_⟩) ?_ ?_
      rotate_left
      ·intro w'
       have hq:=hGb.out AX cX w';go_simp;with_reducible rfl
      rotate_left
      ·simp only[Act.put,sZ0,sZ1,sZ2,i64_w,i32_w];rfl
      refine last_ (i:=16) (N:=none) #[true,true,true,true,true,true,true,true,true,true,true,true,true,true,true,true,true] rfl rfl (by kernel_rfl) (by decide) (fun K hK=>?_)
      refine step_store 25 (.tmp 4) (.tmp 27) g4 (G AX cX) 25 Z (by rfl) rfl (by rfl) (by rfl) (by rfl) hA.out (hGs.out _ _) (hGZ.out _ _) (hGo.out _ _) ?_
      intro wn hA1 hbut hbel
      refine hK.out _ _ ?_
      have hR:=Lib.hid (own_move hR.out (fun k hk=>hbut.2 k (hR.out.lt k hk).2 (fun e=>own_ne hR.out hA.out (by decide) k hk e)))
      have hfin:SlMid w X (.pointer (some ⟨g4,0,none⟩)) wn:=⟨g4,AX,cX,rfl,by rw[hA1,hG'.out],by rw[hXl.out];exact hR.out,hg.out,by rw[← hZ'.out];exact (hbut.2 _ (lt_of_heap hHeld.2) (Nat.ne_of_lt hg.out)).trans hHeld.2,hHeld.1.trans (hbel _ (Nat.le_of_lt hg.out))⟩
      have hfin':=Lib.hid hfin
      clear hA1 hbut hbel hfin
      clear hK K;refine done_ (by kernel_rfl) ?_
      go_step;go_step
      go_meet
      exact hfin'.out
     refine step_alloc 25 Z (by rfl) rfl (by rfl) hz ?_
     intro g4 wn hA0 hg4 hb
     have hg:=Lib.hid (Nat.lt_of_lt_of_le (lt_of_heap hHeld.2) hg4)
     have hA:=Lib.hid hA0
     refine hK.out _ _ ⟨below_step hHeld.1 hb,heap_below hHeld.2 hb⟩ (fun hHeld=>?_)
     (try have hE:=Lib.hid (own_move hE.out (fun k hk=>hb.block k (hE.out.lt k hk).2)))
     (try have hR:=Lib.hid (own_move hR.out (fun k hk=>hb.block k (hR.out.lt k hk).2)))
     clear hb hA0 hg4
     clear hK K;refine norm_ (a':=?_) ?_ ?_
     rotate_left
     ·show Act.put _ (some 4) _=_
      simp only[Act.put,sZ0,sZ1,sZ2,i64_w,i32_w];rfl
     refine one_ (i:=9) (N:=some 22) #[true,true,true,true,true,true,true,true,true,true,true,true,true,false,false,true,false] rfl rfl (by kernel_rfl) (by decide) (fun K hK=>?_)
     refine goes_ Try.func49 (by kernel_rfl) rfl #[.slice A16 8 (c - 16)] (by rfl) rfl rfl (by (try simp only[List.map_toArray,List.map_cons,List.map_nil]);first | done | rfl) ?_
     refine (n16.out _ hHeld.1).mono ?_
     rintro e wn ⟨rfl,hd⟩
     have hb:=drawn_below hd
     refine ⟨_,rfl,?_⟩
     refine hK.out _ _ ⟨below_step hHeld.1 hb,heap_below hHeld.2 hb⟩ (fun hHeld=>?_)
     (try have hE:=Lib.hid (own_move hE.out (fun k hk=>hb.block k (hE.out.lt k hk).2)))
     (try have hA:=Lib.hid (heap_below hA.out hb))
     clear hb hd
     clear hK K;refine norm_ (a':=?_) ?_ ?_
     rotate_left
     ·show Act.put _ (some 22) _=_
      simp only[Act.put,sZ0,sZ1,sZ2,i64_w,i32_w];rfl
     refine one_ (i:=13) (N:=some 26) #[true,true,true,true,true,true,true,true,true,true,true,true,true,true,false,true,false] rfl rfl (by kernel_rfl) (by decide) (fun K hK=>?_)
     refine step_append0 w.heap.size (.tmp 23) (.tmp 25) 23 (.slice (some ⟨gE,0,none⟩) 0 0) (.slice A24 104 (c - 24)) L24 (by rfl) rfl (by rfl) (by rfl) (by rfl) (hsrc.out _ hHeld.1) hE.out hHeld.1.size (by have:=hl24.out;omega) ?_
     intro AX cX wn hR0 hgr hbg
     (try have hA:=Lib.hid (blk_grown hA.out hgr (fun e=>own_ne hE.out hA.out (by decide) _ e.symm rfl)))
     refine hK.out _ _ ⟨hbg _ _ (Nat.le_refl _) hHeld.1,blk_grown hHeld.2 hgr (fun e=>own_ne hE.out hHeld.2 (by decide) _ e.symm rfl)⟩ (fun hHeld=>?_)
     have hR:=Lib.hid hR0
     clear hgr hbg hR0
     clear hK K;refine norm_ (a':=?_) ?_ ?_
     rotate_left
     ·show Act.put _ (some 26) _=_
      simp only[Act.put,sZ0,sZ1,sZ2,i64_w,i32_w];rfl
     refine pure_ (i:=14) (N:=some 27) (v:=?_) (a':=?_) #[true,true,true,true,true,true,true,true,true,true,true,true,true,true,true,true,false] rfl rfl (by kernel_rfl) (fun _ _ _ h=>h) (Or.inl ⟨by rfl,?_⟩) ?_ ?_
     rotate_left
     ·intro w'
      have hq:=hGb.out AX cX w';go_simp;with_reducible rfl
     rotate_left
     ·simp only[Act.put,sZ0,sZ1,sZ2,i64_w,i32_w];rfl
     refine last_ (i:=16) (N:=none) #[true,true,true,true,true,true,true,true,true,true,true,true,true,true,true,true,true] rfl rfl (by kernel_rfl) (by decide) (fun K hK=>?_)
     refine step_store 25 (.tmp 4) (.tmp 27) g4 (G AX cX) 25 Z (by rfl) rfl (by rfl) (by rfl) (by rfl) hA.out (hGs.out _ _) (hGZ.out _ _) (hGo.out _ _) ?_
     intro wn hA1 hbut hbel
     refine hK.out _ _ ?_
     have hR:=Lib.hid (own_move hR.out (fun k hk=>hbut.2 k (hR.out.lt k hk).2 (fun e=>own_ne hR.out hA.out (by decide) k hk e)))
     have hfin:SlMid w X (.pointer (some ⟨g4,0,none⟩)) wn:=⟨g4,AX,cX,rfl,by rw[hA1,hG'.out],by rw[hXl.out];exact hR.out,hg.out,by rw[← hZ'.out];exact (hbut.2 _ (lt_of_heap hHeld.2) (Nat.ne_of_lt hg.out)).trans hHeld.2,hHeld.1.trans (hbel _ (Nat.le_of_lt hg.out))⟩
     have hfin':=Lib.hid hfin
     clear hA1 hbut hbel hfin
     clear hK K;refine done_ (by kernel_rfl) ?_
     go_step;go_step
     go_meet
     exact hfin'.out
    refine step_alloc 25 Z (by rfl) rfl (by rfl) hz ?_
    intro g4 wn hA0 hg4 hb
    have hg:=Lib.hid (Nat.lt_of_lt_of_le (lt_of_heap hHeld.2) hg4)
    have hA:=Lib.hid hA0
    refine hK.out _ _ ⟨below_step hHeld.1 hb,heap_below hHeld.2 hb⟩ (fun hHeld=>?_)
    (try have hE:=Lib.hid (own_move hE.out (fun k hk=>hb.block k (hE.out.lt k hk).2)))
    (try have hR:=Lib.hid (own_move hR.out (fun k hk=>hb.block k (hR.out.lt k hk).2)))
    clear hb hA0 hg4
    clear hK K;refine norm_ (a':=?_) ?_ ?_
    rotate_left
    ·show Act.put _ (some 4) _=_
     simp only[Act.put,sZ0,sZ1,sZ2,i64_w,i32_w];rfl
    refine one_ (i:=6) (N:=some 19) #[true,true,true,true,true,true,true,true,true,false,true,true,true,false,false,true,false] rfl rfl (by kernel_rfl) (by decide) (fun K hK=>?_)
    refine goes_ Try.func49 (by kernel_rfl) rfl #[.slice A8 8 (c - 8)] (by rfl) rfl rfl (by (try simp only[List.map_toArray,List.map_cons,List.map_nil]);first | done | rfl) ?_
    refine (n8.out _ hHeld.1).mono ?_
    rintro e wn ⟨rfl,hd⟩
    have hb:=drawn_below hd
    refine ⟨_,rfl,?_⟩
    refine hK.out _ _ ⟨below_step hHeld.1 hb,heap_below hHeld.2 hb⟩ (fun hHeld=>?_)
    (try have hE:=Lib.hid (own_move hE.out (fun k hk=>hb.block k (hE.out.lt k hk).2)))
    (try have hA:=Lib.hid (heap_below hA.out hb))
    clear hb hd
    clear hK K;refine norm_ (a':=?_) ?_ ?_
    rotate_left
    ·show Act.put _ (some 19) _=_
     simp only[Act.put,sZ0,sZ1,sZ2,i64_w,i32_w];rfl
    refine one_ (i:=9) (N:=some 22) #[true,true,true,true,true,true,true,true,true,true,true,true,true,false,false,true,false] rfl rfl (by kernel_rfl) (by decide) (fun K hK=>?_)
    refine goes_ Try.func49 (by kernel_rfl) rfl #[.slice A16 8 (c - 16)] (by rfl) rfl rfl (by (try simp only[List.map_toArray,List.map_cons,List.map_nil]);first | done | rfl) ?_
    refine (n16.out _ hHeld.1).mono ?_
    rintro e wn ⟨rfl,hd⟩
    have hb:=drawn_below hd
    refine ⟨_,rfl,?_⟩
    refine hK.out _ _ ⟨below_step hHeld.1 hb,heap_below hHeld.2 hb⟩ (fun hHeld=>?_)
    (try have hE:=Lib.hid (own_move hE.out (fun k hk=>hb.block k (hE.out.lt k hk).2)))
    (try have hA:=Lib.hid (heap_below hA.out hb))
    clear hb hd
    clear hK K;refine norm_ (a':=?_) ?_ ?_
    rotate_left
    ·show Act.put _ (some 22) _=_
     simp only[Act.put,sZ0,sZ1,sZ2,i64_w,i32_w];rfl
    refine one_ (i:=13) (N:=some 26) #[true,true,true,true,true,true,true,true,true,true,true,true,true,true,false,true,false] rfl rfl (by kernel_rfl) (by decide) (fun K hK=>?_)
    refine step_append0 w.heap.size (.tmp 23) (.tmp 25) 23 (.slice (some ⟨gE,0,none⟩) 0 0) (.slice A24 104 (c - 24)) L24 (by rfl) rfl (by rfl) (by rfl) (by rfl) (hsrc.out _ hHeld.1) hE.out hHeld.1.size (by have:=hl24.out;omega) ?_
    intro AX cX wn hR0 hgr hbg
    (try have hA:=Lib.hid (blk_grown hA.out hgr (fun e=>own_ne hE.out hA.out (by decide) _ e.symm rfl)))
    refine hK.out _ _ ⟨hbg _ _ (Nat.le_refl _) hHeld.1,blk_grown hHeld.2 hgr (fun e=>own_ne hE.out hHeld.2 (by decide) _ e.symm rfl)⟩ (fun hHeld=>?_)
    have hR:=Lib.hid hR0
    clear hgr hbg hR0
    clear hK K;refine norm_ (a':=?_) ?_ ?_
    rotate_left
    ·show Act.put _ (some 26) _=_
     simp only[Act.put,sZ0,sZ1,sZ2,i64_w,i32_w];rfl
    refine pure_ (i:=14) (N:=some 27) (v:=?_) (a':=?_) #[true,true,true,true,true,true,true,true,true,true,true,true,true,true,true,true,false] rfl rfl (by kernel_rfl) (fun _ _ _ h=>h) (Or.inl ⟨by rfl,?_⟩) ?_ ?_
    rotate_left
    ·intro w'
     have hq:=hGb.out AX cX w';go_simp;with_reducible rfl
    rotate_left
    ·simp only[Act.put,sZ0,sZ1,sZ2,i64_w,i32_w];rfl
    refine last_ (i:=16) (N:=none) #[true,true,true,true,true,true,true,true,true,true,true,true,true,true,true,true,true] rfl rfl (by kernel_rfl) (by decide) (fun K hK=>?_)
    refine step_store 25 (.tmp 4) (.tmp 27) g4 (G AX cX) 25 Z (by rfl) rfl (by rfl) (by rfl) (by rfl) hA.out (hGs.out _ _) (hGZ.out _ _) (hGo.out _ _) ?_
    intro wn hA1 hbut hbel
    refine hK.out _ _ ?_
    have hR:=Lib.hid (own_move hR.out (fun k hk=>hbut.2 k (hR.out.lt k hk).2 (fun e=>own_ne hR.out hA.out (by decide) k hk e)))
    have hfin:SlMid w X (.pointer (some ⟨g4,0,none⟩)) wn:=⟨g4,AX,cX,rfl,by rw[hA1,hG'.out],by rw[hXl.out];exact hR.out,hg.out,by rw[← hZ'.out];exact (hbut.2 _ (lt_of_heap hHeld.2) (Nat.ne_of_lt hg.out)).trans hHeld.2,hHeld.1.trans (hbel _ (Nat.le_of_lt hg.out))⟩
    have hfin':=Lib.hid hfin
    clear hA1 hbut hbel hfin
    clear hK K;refine done_ (by kernel_rfl) ?_
    go_step;go_step
    go_meet
    exact hfin'.out
   refine step_alloc 25 Z (by rfl) rfl (by rfl) hz ?_
   intro g4 wn hA0 hg4 hb
   have hg:=Lib.hid (Nat.lt_of_lt_of_le (lt_of_heap hHeld.2) hg4)
   have hA:=Lib.hid hA0
   refine hK.out _ _ ⟨below_step hHeld.1 hb,heap_below hHeld.2 hb⟩ (fun hHeld=>?_)
   (try have hE:=Lib.hid (own_move hE.out (fun k hk=>hb.block k (hE.out.lt k hk).2)))
   (try have hR:=Lib.hid (own_move hR.out (fun k hk=>hb.block k (hR.out.lt k hk).2)))
   clear hb hA0 hg4
   clear hK K;refine norm_ (a':=?_) ?_ ?_
   rotate_left
   ·show Act.put _ (some 4) _=_
    simp only[Act.put,sZ0,sZ1,sZ2,i64_w,i32_w];rfl
   refine one_ (i:=2) (N:=some 15) #[true,true,true,false,true,true,false,true,true,false,true,true,true,false,false,true,false] rfl rfl (by kernel_rfl) (by decide) (fun K hK=>?_)
   refine goes_ Try.func49 (by kernel_rfl) rfl #[.slice A4 4 (c - 4)] (by rfl) rfl rfl (by (try simp only[List.map_toArray,List.map_cons,List.map_nil]);first | done | rfl) ?_
   refine (n4.out _ hHeld.1).mono ?_
   rintro e wn ⟨rfl,hd⟩
   have hb:=drawn_below hd
   refine ⟨_,rfl,?_⟩
   refine hK.out _ _ ⟨below_step hHeld.1 hb,heap_below hHeld.2 hb⟩ (fun hHeld=>?_)
   (try have hE:=Lib.hid (own_move hE.out (fun k hk=>hb.block k (hE.out.lt k hk).2)))
   (try have hA:=Lib.hid (heap_below hA.out hb))
   clear hb hd
   clear hK K;refine norm_ (a':=?_) ?_ ?_
   rotate_left
   ·show Act.put _ (some 15) _=_
    simp only[Act.put,sZ0,sZ1,sZ2,i64_w,i32_w];rfl
   refine pure_ (i:=3) (N:=some 16) (v:=?_) (a':=?_) #[true,true,true,true,true,true,false,true,true,false,true,true,true,false,false,true,false] rfl rfl (by kernel_rfl) (fun _ _ _ h=>h) (Or.inl ⟨by rfl,?_⟩) ?_ ?_
   rotate_left
   ·intro w';go_simp;with_reducible rfl
   rotate_left
   ·simp only[Act.put,sZ0,sZ1,sZ2,i64_w,i32_w];rfl
   refine one_ (i:=6) (N:=some 19) #[true,true,true,true,true,true,true,true,true,false,true,true,true,false,false,true,false] rfl rfl (by kernel_rfl) (by decide) (fun K hK=>?_)
   refine goes_ Try.func49 (by kernel_rfl) rfl #[.slice A8 8 (c - 8)] (by rfl) rfl rfl (by (try simp only[List.map_toArray,List.map_cons,List.map_nil]);first | done | rfl) ?_
   refine (n8.out _ hHeld.1).mono ?_
   rintro e wn ⟨rfl,hd⟩
   have hb:=drawn_below hd
   refine ⟨_,rfl,?_⟩
   refine hK.out _ _ ⟨below_step hHeld.1 hb,heap_below hHeld.2 hb⟩ (fun hHeld=>?_)
   (try have hE:=Lib.hid (own_move hE.out (fun k hk=>hb.block k (hE.out.lt k hk).2)))
   (try have hA:=Lib.hid (heap_below hA.out hb))
   clear hb hd
   clear hK K;refine norm_ (a':=?_) ?_ ?_
   rotate_left
   ·show Act.put _ (some 19) _=_
    simp only[Act.put,sZ0,sZ1,sZ2,i64_w,i32_w];rfl
   refine one_ (i:=9) (N:=some 22) #[true,true,true,true,true,true,true,true,true,true,true,true,true,false,false,true,false] rfl rfl (by kernel_rfl) (by decide) (fun K hK=>?_)
   refine goes_ Try.func49 (by kernel_rfl) rfl #[.slice A16 8 (c - 16)] (by rfl) rfl rfl (by (try simp only[List.map_toArray,List.map_cons,List.map_nil]);first | done | rfl) ?_
   refine (n16.out _ hHeld.1).mono ?_
   rintro e wn ⟨rfl,hd⟩
   have hb:=drawn_below hd
   refine ⟨_,rfl,?_⟩
   refine hK.out _ _ ⟨below_step hHeld.1 hb,heap_below hHeld.2 hb⟩ (fun hHeld=>?_)
   (try have hE:=Lib.hid (own_move hE.out (fun k hk=>hb.block k (hE.out.lt k hk).2)))
   (try have hA:=Lib.hid (heap_below hA.out hb))
   clear hb hd
   clear hK K;refine norm_ (a':=?_) ?_ ?_
   rotate_left
   ·show Act.put _ (some 22) _=_
    simp only[Act.put,sZ0,sZ1,sZ2,i64_w,i32_w];rfl
   refine one_ (i:=13) (N:=some 26) #[true,true,true,true,true,true,true,true,true,true,true,true,true,true,false,true,false] rfl rfl (by kernel_rfl) (by decide) (fun K hK=>?_)
   refine step_append0 w.heap.size (.tmp 23) (.tmp 25) 23 (.slice (some ⟨gE,0,none⟩) 0 0) (.slice A24 104 (c - 24)) L24 (by rfl) rfl (by rfl) (by rfl) (by rfl) (hsrc.out _ hHeld.1) hE.out hHeld.1.size (by have:=hl24.out;omega) ?_
   intro AX cX wn hR0 hgr hbg
   (try have hA:=Lib.hid (blk_grown hA.out hgr (fun e=>own_ne hE.out hA.out (by decide) _ e.symm rfl)))
   refine hK.out _ _ ⟨hbg _ _ (Nat.le_refl _) hHeld.1,blk_grown hHeld.2 hgr (fun e=>own_ne hE.out hHeld.2 (by decide) _ e.symm rfl)⟩ (fun hHeld=>?_)
   have hR:=Lib.hid hR0
   clear hgr hbg hR0
   clear hK K;refine norm_ (a':=?_) ?_ ?_
   rotate_left
   ·show Act.put _ (some 26) _=_
    simp only[Act.put,sZ0,sZ1,sZ2,i64_w,i32_w];rfl
   refine pure_ (i:=14) (N:=some 27) (v:=?_) (a':=?_) #[true,true,true,true,true,true,true,true,true,true,true,true,true,true,true,true,false] rfl rfl (by kernel_rfl) (fun _ _ _ h=>h) (Or.inl ⟨by rfl,?_⟩) ?_ ?_
   rotate_left
   ·intro w'
    have hq:=hGb.out AX cX w';go_simp;with_reducible rfl
   rotate_left
   ·simp only[Act.put,sZ0,sZ1,sZ2,i64_w,i32_w];rfl
   refine last_ (i:=16) (N:=none) #[true,true,true,true,true,true,true,true,true,true,true,true,true,true,true,true,true] rfl rfl (by kernel_rfl) (by decide) (fun K hK=>?_)
   refine step_store 25 (.tmp 4) (.tmp 27) g4 (G AX cX) 25 Z (by rfl) rfl (by rfl) (by rfl) (by rfl) hA.out (hGs.out _ _) (hGZ.out _ _) (hGo.out _ _) ?_
   intro wn hA1 hbut hbel
   refine hK.out _ _ ?_
   have hR:=Lib.hid (own_move hR.out (fun k hk=>hbut.2 k (hR.out.lt k hk).2 (fun e=>own_ne hR.out hA.out (by decide) k hk e)))
   have hfin:SlMid w X (.pointer (some ⟨g4,0,none⟩)) wn:=⟨g4,AX,cX,rfl,by rw[hA1,hG'.out],by rw[hXl.out];exact hR.out,hg.out,by rw[← hZ'.out];exact (hbut.2 _ (lt_of_heap hHeld.2) (Nat.ne_of_lt hg.out)).trans hHeld.2,hHeld.1.trans (hbel _ (Nat.le_of_lt hg.out))⟩
   have hfin':=Lib.hid hfin
   clear hA1 hbut hbel hfin
   clear hK K;refine done_ (by kernel_rfl) ?_
   go_step;go_step
   go_meet
   exact hfin'.out
  refine step_alloc 25 Z (by rfl) rfl (by rfl) hz ?_
  intro g4 wn hA0 hg4 hb
  have hg:=Lib.hid (Nat.lt_of_lt_of_le (lt_of_heap hHeld.2) hg4)
  have hA:=Lib.hid hA0
  refine hK.out _ _ ⟨below_step hHeld.1 hb,heap_below hHeld.2 hb⟩ (fun hHeld=>?_)
  (try have hE:=Lib.hid (own_move hE.out (fun k hk=>hb.block k (hE.out.lt k hk).2)))
  (try have hR:=Lib.hid (own_move hR.out (fun k hk=>hb.block k (hR.out.lt k hk).2)))
  clear hb hA0 hg4
  clear hK K;refine norm_ (a':=?_) ?_ ?_
  rotate_left
  ·show Act.put _ (some 4) _=_
   simp only[Act.put,sZ0,sZ1,sZ2,i64_w,i32_w];rfl
  refine two_ (i:=2) (Ni:=some 15) (j:=10) (Nj:=some 23) #[true,true,true,false,true,true,false,true,true,false,false,true,true,false,false,true,false] #[true,true,false,false,true,true,false,true,true,false,true,true,true,false,false,true,false] rfl rfl rfl rfl (by kernel_rfl) (by decide) (by decide) (fun K hK=>?_) (fun K hK=>?_)
  ·skip
   refine goes_ Try.func49 (by kernel_rfl) rfl #[.slice A4 4 (c - 4)] (by rfl) rfl rfl (by (try simp only[List.map_toArray,List.map_cons,List.map_nil]);first | done | rfl) ?_
   refine (n4.out _ hHeld.1).mono ?_
   rintro e wn ⟨rfl,hd⟩
   have hb:=drawn_below hd
   refine ⟨_,rfl,?_⟩
   refine hK.out _ _ ⟨below_step hHeld.1 hb,heap_below hHeld.2 hb⟩ (fun hHeld=>?_)
   (try have hE:=Lib.hid (own_move hE.out (fun k hk=>hb.block k (hE.out.lt k hk).2)))
   (try have hA:=Lib.hid (heap_below hA.out hb))
   clear hb hd
   clear hK K;refine norm_ (a':=?_) ?_ ?_
   rotate_left
   ·show Act.put _ (some 15) _=_
    simp only[Act.put,sZ0,sZ1,sZ2,i64_w,i32_w];rfl
   refine pure_ (i:=3) (N:=some 16) (v:=?_) (a':=?_) #[true,true,true,true,true,true,false,true,true,false,false,true,true,false,false,true,false] rfl rfl (by kernel_rfl) (fun _ _ _ h=>h) (Or.inl ⟨by rfl,?_⟩) ?_ ?_
   rotate_left
   ·intro w';go_simp;with_reducible rfl
   rotate_left
   ·simp only[Act.put,sZ0,sZ1,sZ2,i64_w,i32_w];rfl
   refine two_ (i:=6) (Ni:=some 19) (j:=10) (Nj:=some 23) #[true,true,true,true,true,true,true,true,true,false,false,true,true,false,false,true,false] #[true,true,true,true,true,true,false,true,true,false,true,true,true,false,false,true,false] rfl rfl rfl rfl (by kernel_rfl) (by decide) (by decide) (fun K hK=>?_) (fun K hK=>?_)
   ·skip
    refine goes_ Try.func49 (by kernel_rfl) rfl #[.slice A8 8 (c - 8)] (by rfl) rfl rfl (by (try simp only[List.map_toArray,List.map_cons,List.map_nil]);first | done | rfl) ?_
    refine (n8.out _ hHeld.1).mono ?_
    rintro e wn ⟨rfl,hd⟩
    have hb:=drawn_below hd
    refine ⟨_,rfl,?_⟩
    refine hK.out _ _ ⟨below_step hHeld.1 hb,heap_below hHeld.2 hb⟩ (fun hHeld=>?_)
    (try have hE:=Lib.hid (own_move hE.out (fun k hk=>hb.block k (hE.out.lt k hk).2)))
    (try have hA:=Lib.hid (heap_below hA.out hb))
    clear hb hd
    clear hK K;refine norm_ (a':=?_) ?_ ?_
    rotate_left
    ·show Act.put _ (some 19) _=_
     simp only[Act.put,sZ0,sZ1,sZ2,i64_w,i32_w];rfl
    refine two_ (i:=9) (Ni:=some 22) (j:=10) (Nj:=some 23) #[true,true,true,true,true,true,true,true,true,true,false,true,true,false,false,true,false] #[true,true,true,true,true,true,true,true,true,false,true,true,true,false,false,true,false] rfl rfl rfl rfl (by kernel_rfl) (by decide) (by decide) (fun K hK=>?_) (fun K hK=>?_)
    ·skip
     refine goes_ Try.func49 (by kernel_rfl) rfl #[.slice A16 8 (c - 16)] (by rfl) rfl rfl (by (try simp only[List.map_toArray,List.map_cons,List.map_nil]);first | done | rfl) ?_
     refine (n16.out _ hHeld.1).mono ?_
     rintro e wn ⟨rfl,hd⟩
     have hb:=drawn_below hd
     refine ⟨_,rfl,?_⟩
     refine hK.out _ _ ⟨below_step hHeld.1 hb,heap_below hHeld.2 hb⟩ (fun hHeld=>?_)
     (try have hE:=Lib.hid (own_move hE.out (fun k hk=>hb.block k (hE.out.lt k hk).2)))
     (try have hA:=Lib.hid (heap_below hA.out hb))
     clear hb hd
     clear hK K;refine norm_ (a':=?_) ?_ ?_
     rotate_left
     ·show Act.put _ (some 22) _=_
      simp only[Act.put,sZ0,sZ1,sZ2,i64_w,i32_w];rfl
     refine one_ (i:=10) (N:=some 23) #[true,true,true,true,true,true,true,true,true,true,true,true,true,false,false,true,false] rfl rfl (by kernel_rfl) (by decide) (fun K hK=>?_)
     refine step_empty 23 5 (by rfl) rfl (by rfl) Try.underlying23 size5' ?_
     intro gE wn hE0 hb
     have hE:=Lib.hid (own_less hE0 hHeld.1.size)
     refine hK.out _ _ ⟨below_step hHeld.1 hb,heap_below hHeld.2 hb⟩ (fun hHeld=>?_)
     (try have hA:=Lib.hid (heap_below hA.out hb))
     clear hb hE0
     clear hK K;refine norm_ (a':=?_) ?_ ?_
     rotate_left
     ·show Act.put _ (some 23) _=_
      simp only[Act.put,sZ0,sZ1,sZ2,i64_w,i32_w];rfl
     refine one_ (i:=13) (N:=some 26) #[true,true,true,true,true,true,true,true,true,true,true,true,true,true,false,true,false] rfl rfl (by kernel_rfl) (by decide) (fun K hK=>?_)
     refine step_append0 w.heap.size (.tmp 23) (.tmp 25) 23 (.slice (some ⟨gE,0,none⟩) 0 0) (.slice A24 104 (c - 24)) L24 (by rfl) rfl (by rfl) (by rfl) (by rfl) (hsrc.out _ hHeld.1) hE.out hHeld.1.size (by have:=hl24.out;omega) ?_
     intro AX cX wn hR0 hgr hbg
     (try have hA:=Lib.hid (blk_grown hA.out hgr (fun e=>own_ne hE.out hA.out (by decide) _ e.symm rfl)))
     refine hK.out _ _ ⟨hbg _ _ (Nat.le_refl _) hHeld.1,blk_grown hHeld.2 hgr (fun e=>own_ne hE.out hHeld.2 (by decide) _ e.symm rfl)⟩ (fun hHeld=>?_)
     have hR:=Lib.hid hR0
     clear hgr hbg hR0
     clear hK K;refine norm_ (a':=?_) ?_ ?_
     rotate_left
     ·show Act.put _ (some 26) _=_
      simp only[Act.put,sZ0,sZ1,sZ2,i64_w,i32_w];rfl
     refine pure_ (i:=14) (N:=some 27) (v:=?_) (a':=?_) #[true,true,true,true,true,true,true,true,true,true,true,true,true,true,true,true,false] rfl rfl (by kernel_rfl) (fun _ _ _ h=>h) (Or.inl ⟨by rfl,?_⟩) ?_ ?_
     rotate_left
     ·intro w'
      have hq:=hGb.out AX cX w';go_simp;with_reducible rfl
     rotate_left
     ·simp only[Act.put,sZ0,sZ1,sZ2,i64_w,i32_w];rfl
     refine last_ (i:=16) (N:=none) #[true,true,true,true,true,true,true,true,true,true,true,true,true,true,true,true,true] rfl rfl (by kernel_rfl) (by decide) (fun K hK=>?_)
     refine step_store 25 (.tmp 4) (.tmp 27) g4 (G AX cX) 25 Z (by rfl) rfl (by rfl) (by rfl) (by rfl) hA.out (hGs.out _ _) (hGZ.out _ _) (hGo.out _ _) ?_
     intro wn hA1 hbut hbel
     refine hK.out _ _ ?_
     have hR:=Lib.hid (own_move hR.out (fun k hk=>hbut.2 k (hR.out.lt k hk).2 (fun e=>own_ne hR.out hA.out (by decide) k hk e)))
     have hfin:SlMid w X (.pointer (some ⟨g4,0,none⟩)) wn:=⟨g4,AX,cX,rfl,by rw[hA1,hG'.out],by rw[hXl.out];exact hR.out,hg.out,by rw[← hZ'.out];exact (hbut.2 _ (lt_of_heap hHeld.2) (Nat.ne_of_lt hg.out)).trans hHeld.2,hHeld.1.trans (hbel _ (Nat.le_of_lt hg.out))⟩
     have hfin':=Lib.hid hfin
     clear hA1 hbut hbel hfin
     clear hK K;refine done_ (by kernel_rfl) ?_
     go_step;go_step
     go_meet
     exact hfin'.out
    refine step_empty 23 5 (by rfl) rfl (by rfl) Try.underlying23 size5' ?_
    intro gE wn hE0 hb
    have hE:=Lib.hid (own_less hE0 hHeld.1.size)
    refine hK.out _ _ ⟨below_step hHeld.1 hb,heap_below hHeld.2 hb⟩ (fun hHeld=>?_)
    (try have hA:=Lib.hid (heap_below hA.out hb))
    clear hb hE0
    clear hK K;refine norm_ (a':=?_) ?_ ?_
    rotate_left
    ·show Act.put _ (some 23) _=_
     simp only[Act.put,sZ0,sZ1,sZ2,i64_w,i32_w];rfl
    refine one_ (i:=9) (N:=some 22) #[true,true,true,true,true,true,true,true,true,true,true,true,true,false,false,true,false] rfl rfl (by kernel_rfl) (by decide) (fun K hK=>?_)
    refine goes_ Try.func49 (by kernel_rfl) rfl #[.slice A16 8 (c - 16)] (by rfl) rfl rfl (by (try simp only[List.map_toArray,List.map_cons,List.map_nil]);first | done | rfl) ?_
    refine (n16.out _ hHeld.1).mono ?_
    rintro e wn ⟨rfl,hd⟩
    have hb:=drawn_below hd
    refine ⟨_,rfl,?_⟩
    refine hK.out _ _ ⟨below_step hHeld.1 hb,heap_below hHeld.2 hb⟩ (fun hHeld=>?_)
    (try have hE:=Lib.hid (own_move hE.out (fun k hk=>hb.block k (hE.out.lt k hk).2)))
    (try have hA:=Lib.hid (heap_below hA.out hb))
    clear hb hd
    clear hK K;refine norm_ (a':=?_) ?_ ?_
    rotate_left
    ·show Act.put _ (some 22) _=_
     simp only[Act.put,sZ0,sZ1,sZ2,i64_w,i32_w];rfl
    refine one_ (i:=13) (N:=some 26) #[true,true,true,true,true,true,true,true,true,true,true,true,true,true,false,true,false] rfl rfl (by kernel_rfl) (by decide) (fun K hK=>?_)
    refine step_append0 w.heap.size (.tmp 23) (.tmp 25) 23 (.slice (some ⟨gE,0,none⟩) 0 0) (.slice A24 104 (c - 24)) L24 (by rfl) rfl (by rfl) (by rfl) (by rfl) (hsrc.out _ hHeld.1) hE.out hHeld.1.size (by have:=hl24.out;omega) ?_
    intro AX cX wn hR0 hgr hbg
    (try have hA:=Lib.hid (blk_grown hA.out hgr (fun e=>own_ne hE.out hA.out (by decide) _ e.symm rfl)))
    refine hK.out _ _ ⟨hbg _ _ (Nat.le_refl _) hHeld.1,blk_grown hHeld.2 hgr (fun e=>own_ne hE.out hHeld.2 (by decide) _ e.symm rfl)⟩ (fun hHeld=>?_)
    have hR:=Lib.hid hR0
    clear hgr hbg hR0
    clear hK K;refine norm_ (a':=?_) ?_ ?_
    rotate_left
    ·show Act.put _ (some 26) _=_
     simp only[Act.put,sZ0,sZ1,sZ2,i64_w,i32_w];rfl
    refine pure_ (i:=14) (N:=some 27) (v:=?_) (a':=?_) #[true,true,true,true,true,true,true,true,true,true,true,true,true,true,true,true,false] rfl rfl (by kernel_rfl) (fun _ _ _ h=>h) (Or.inl ⟨by rfl,?_⟩) ?_ ?_
    rotate_left
    ·intro w'
     have hq:=hGb.out AX cX w';go_simp;with_reducible rfl
    rotate_left
    ·simp only[Act.put,sZ0,sZ1,sZ2,i64_w,i32_w];rfl
    refine last_ (i:=16) (N:=none) #[true,true,true,true,true,true,true,true,true,true,true,true,true,true,true,true,true] rfl rfl (by kernel_rfl) (by decide) (fun K hK=>?_)
    refine step_store 25 (.tmp 4) (.tmp 27) g4 (G AX cX) 25 Z (by rfl) rfl (by rfl) (by rfl) (by rfl) hA.out (hGs.out _ _) (hGZ.out _ _) (hGo.out _ _) ?_
    intro wn hA1 hbut hbel
    refine hK.out _ _ ?_
    have hR:=Lib.hid (own_move hR.out (fun k hk=>hbut.2 k (hR.out.lt k hk).2 (fun e=>own_ne hR.out hA.out (by decide) k hk e)))
    have hfin:SlMid w X (.pointer (some ⟨g4,0,none⟩)) wn:=⟨g4,AX,cX,rfl,by rw[hA1,hG'.out],by rw[hXl.out];exact hR.out,hg.out,by rw[← hZ'.out];exact (hbut.2 _ (lt_of_heap hHeld.2) (Nat.ne_of_lt hg.out)).trans hHeld.2,hHeld.1.trans (hbel _ (Nat.le_of_lt hg.out))⟩
    have hfin':=Lib.hid hfin
    clear hA1 hbut hbel hfin
    clear hK K;refine done_ (by kernel_rfl) ?_
    go_step;go_step
    go_meet
    exact hfin'.out
   refine step_empty 23 5 (by rfl) rfl (by rfl) Try.underlying23 size5' ?_
   intro gE wn hE0 hb
   have hE:=Lib.hid (own_less hE0 hHeld.1.size)
   refine hK.out _ _ ⟨below_step hHeld.1 hb,heap_below hHeld.2 hb⟩ (fun hHeld=>?_)
   (try have hA:=Lib.hid (heap_below hA.out hb))
   clear hb hE0
   clear hK K;refine norm_ (a':=?_) ?_ ?_
   rotate_left
   ·show Act.put _ (some 23) _=_
    simp only[Act.put,sZ0,sZ1,sZ2,i64_w,i32_w];rfl
   refine one_ (i:=6) (N:=some 19) #[true,true,true,true,true,true,true,true,true,false,true,true,true,false,false,true,false] rfl rfl (by kernel_rfl) (by decide) (fun K hK=>?_)
   refine goes_ Try.func49 (by kernel_rfl) rfl #[.slice A8 8 (c - 8)] (by rfl) rfl rfl (by (try simp only[List.map_toArray,List.map_cons,List.map_nil]);first | done | rfl) ?_
   refine (n8.out _ hHeld.1).mono ?_
   rintro e wn ⟨rfl,hd⟩
   have hb:=drawn_below hd
   refine ⟨_,rfl,?_⟩
   refine hK.out _ _ ⟨below_step hHeld.1 hb,heap_below hHeld.2 hb⟩ (fun hHeld=>?_)
   (try have hE:=Lib.hid (own_move hE.out (fun k hk=>hb.block k (hE.out.lt k hk).2)))
   (try have hA:=Lib.hid (heap_below hA.out hb))
   clear hb hd
   clear hK K;refine norm_ (a':=?_) ?_ ?_
   rotate_left
   ·show Act.put _ (some 19) _=_
    simp only[Act.put,sZ0,sZ1,sZ2,i64_w,i32_w];rfl
   refine one_ (i:=9) (N:=some 22) #[true,true,true,true,true,true,true,true,true,true,true,true,true,false,false,true,false] rfl rfl (by kernel_rfl) (by decide) (fun K hK=>?_)
   refine goes_ Try.func49 (by kernel_rfl) rfl #[.slice A16 8 (c - 16)] (by rfl) rfl rfl (by (try simp only[List.map_toArray,List.map_cons,List.map_nil]);first | done | rfl) ?_
   refine (n16.out _ hHeld.1).mono ?_
   rintro e wn ⟨rfl,hd⟩
   have hb:=drawn_below hd
   refine ⟨_,rfl,?_⟩
   refine hK.out _ _ ⟨below_step hHeld.1 hb,heap_below hHeld.2 hb⟩ (fun hHeld=>?_)
   (try have hE:=Lib.hid (own_move hE.out (fun k hk=>hb.block k (hE.out.lt k hk).2)))
   (try have hA:=Lib.hid (heap_below hA.out hb))
   clear hb hd
   clear hK K;refine norm_ (a':=?_) ?_ ?_
   rotate_left
   ·show Act.put _ (some 22) _=_
    simp only[Act.put,sZ0,sZ1,sZ2,i64_w,i32_w];rfl
   refine one_ (i:=13) (N:=some 26) #[true,true,true,true,true,true,true,true,true,true,true,true,true,true,false,true,false] rfl rfl (by kernel_rfl) (by decide) (fun K hK=>?_)
   refine step_append0 w.heap.size (.tmp 23) (.tmp 25) 23 (.slice (some ⟨gE,0,none⟩) 0 0) (.slice A24 104 (c - 24)) L24 (by rfl) rfl (by rfl) (by rfl) (by rfl) (hsrc.out _ hHeld.1) hE.out hHeld.1.size (by have:=hl24.out;omega) ?_
   intro AX cX wn hR0 hgr hbg
   (try have hA:=Lib.hid (blk_grown hA.out hgr (fun e=>own_ne hE.out hA.out (by decide) _ e.symm rfl)))
   refine hK.out _ _ ⟨hbg _ _ (Nat.le_refl _) hHeld.1,blk_grown hHeld.2 hgr (fun e=>own_ne hE.out hHeld.2 (by decide) _ e.symm rfl)⟩ (fun hHeld=>?_)
   have hR:=Lib.hid hR0
   clear hgr hbg hR0
   clear hK K;refine norm_ (a':=?_) ?_ ?_
   rotate_left
   ·show Act.put _ (some 26) _=_
    simp only[Act.put,sZ0,sZ1,sZ2,i64_w,i32_w];rfl
   refine pure_ (i:=14) (N:=some 27) (v:=?_) (a':=?_) #[true,true,true,true,true,true,true,true,true,true,true,true,true,true,true,true,false] rfl rfl (by kernel_rfl) (fun _ _ _ h=>h) (Or.inl ⟨by rfl,?_⟩) ?_ ?_
   rotate_left
   ·intro w'
    have hq:=hGb.out AX cX w';go_simp;with_reducible rfl
   rotate_left
   ·simp only[Act.put,sZ0,sZ1,sZ2,i64_w,i32_w];rfl
   refine last_ (i:=16) (N:=none) #[true,true,true,true,true,true,true,true,true,true,true,true,true,true,true,true,true] rfl rfl (by kernel_rfl) (by decide) (fun K hK=>?_)
   refine step_store 25 (.tmp 4) (.tmp 27) g4 (G AX cX) 25 Z (by rfl) rfl (by rfl) (by rfl) (by rfl) hA.out (hGs.out _ _) (hGZ.out _ _) (hGo.out _ _) ?_
   intro wn hA1 hbut hbel
   refine hK.out _ _ ?_
   have hR:=Lib.hid (own_move hR.out (fun k hk=>hbut.2 k (hR.out.lt k hk).2 (fun e=>own_ne hR.out hA.out (by decide) k hk e)))
   have hfin:SlMid w X (.pointer (some ⟨g4,0,none⟩)) wn:=⟨g4,AX,cX,rfl,by rw[hA1,hG'.out],by rw[hXl.out];exact hR.out,hg.out,by rw[← hZ'.out];exact (hbut.2 _ (lt_of_heap hHeld.2) (Nat.ne_of_lt hg.out)).trans hHeld.2,hHeld.1.trans (hbel _ (Nat.le_of_lt hg.out))⟩
   have hfin':=Lib.hid hfin
   clear hA1 hbut hbel hfin
   clear hK K;refine done_ (by kernel_rfl) ?_
   go_step;go_step
   go_meet
   exact hfin'.out
  refine step_empty 23 5 (by rfl) rfl (by rfl) Try.underlying23 size5' ?_
  intro gE wn hE0 hb
  have hE:=Lib.hid (own_less hE0 hHeld.1.size)
  refine hK.out _ _ ⟨below_step hHeld.1 hb,heap_below hHeld.2 hb⟩ (fun hHeld=>?_)
  (try have hA:=Lib.hid (heap_below hA.out hb))
  clear hb hE0
  clear hK K;refine norm_ (a':=?_) ?_ ?_
  rotate_left
  ·show Act.put _ (some 23) _=_
   simp only[Act.put,sZ0,sZ1,sZ2,i64_w,i32_w];rfl
  refine one_ (i:=2) (N:=some 15) #[true,true,true,false,true,true,false,true,true,false,true,true,true,false,false,true,false] rfl rfl (by kernel_rfl) (by decide) (fun K hK=>?_)
  refine goes_ Try.func49 (by kernel_rfl) rfl #[.slice A4 4 (c - 4)] (by rfl) rfl rfl (by (try simp only[List.map_toArray,List.map_cons,List.map_nil]);first | done | rfl) ?_
  refine (n4.out _ hHeld.1).mono ?_
  rintro e wn ⟨rfl,hd⟩
  have hb:=drawn_below hd
  refine ⟨_,rfl,?_⟩
  refine hK.out _ _ ⟨below_step hHeld.1 hb,heap_below hHeld.2 hb⟩ (fun hHeld=>?_)
  (try have hE:=Lib.hid (own_move hE.out (fun k hk=>hb.block k (hE.out.lt k hk).2)))
  (try have hA:=Lib.hid (heap_below hA.out hb))
  clear hb hd
  clear hK K;refine norm_ (a':=?_) ?_ ?_
  rotate_left
  ·show Act.put _ (some 15) _=_
   simp only[Act.put,sZ0,sZ1,sZ2,i64_w,i32_w];rfl
  refine pure_ (i:=3) (N:=some 16) (v:=?_) (a':=?_) #[true,true,true,true,true,true,false,true,true,false,true,true,true,false,false,true,false] rfl rfl (by kernel_rfl) (fun _ _ _ h=>h) (Or.inl ⟨by rfl,?_⟩) ?_ ?_
  rotate_left
  ·intro w';go_simp;with_reducible rfl
  rotate_left
  ·simp only[Act.put,sZ0,sZ1,sZ2,i64_w,i32_w];rfl
  refine one_ (i:=6) (N:=some 19) #[true,true,true,true,true,true,true,true,true,false,true,true,true,false,false,true,false] rfl rfl (by kernel_rfl) (by decide) (fun K hK=>?_)
  refine goes_ Try.func49 (by kernel_rfl) rfl #[.slice A8 8 (c - 8)] (by rfl) rfl rfl (by (try simp only[List.map_toArray,List.map_cons,List.map_nil]);first | done | rfl) ?_
  refine (n8.out _ hHeld.1).mono ?_
  rintro e wn ⟨rfl,hd⟩
  have hb:=drawn_below hd
  refine ⟨_,rfl,?_⟩
  refine hK.out _ _ ⟨below_step hHeld.1 hb,heap_below hHeld.2 hb⟩ (fun hHeld=>?_)
  (try have hE:=Lib.hid (own_move hE.out (fun k hk=>hb.block k (hE.out.lt k hk).2)))
  (try have hA:=Lib.hid (heap_below hA.out hb))
  clear hb hd
  clear hK K;refine norm_ (a':=?_) ?_ ?_
  rotate_left
  ·show Act.put _ (some 19) _=_
   simp only[Act.put,sZ0,sZ1,sZ2,i64_w,i32_w];rfl
  refine one_ (i:=9) (N:=some 22) #[true,true,true,true,true,true,true,true,true,true,true,true,true,false,false,true,false] rfl rfl (by kernel_rfl) (by decide) (fun K hK=>?_)
  refine goes_ Try.func49 (by kernel_rfl) rfl #[.slice A16 8 (c - 16)] (by rfl) rfl rfl (by (try simp only[List.map_toArray,List.map_cons,List.map_nil]);first | done | rfl) ?_
  refine (n16.out _ hHeld.1).mono ?_
  rintro e wn ⟨rfl,hd⟩
  have hb:=drawn_below hd
  refine ⟨_,rfl,?_⟩
  refine hK.out _ _ ⟨below_step hHeld.1 hb,heap_below hHeld.2 hb⟩ (fun hHeld=>?_)
  (try have hE:=Lib.hid (own_move hE.out (fun k hk=>hb.block k (hE.out.lt k hk).2)))
  (try have hA:=Lib.hid (heap_below hA.out hb))
  clear hb hd
  clear hK K;refine norm_ (a':=?_) ?_ ?_
  rotate_left
  ·show Act.put _ (some 22) _=_
   simp only[Act.put,sZ0,sZ1,sZ2,i64_w,i32_w];rfl
  refine one_ (i:=13) (N:=some 26) #[true,true,true,true,true,true,true,true,true,true,true,true,true,true,false,true,false] rfl rfl (by kernel_rfl) (by decide) (fun K hK=>?_)
  refine step_append0 w.heap.size (.tmp 23) (.tmp 25) 23 (.slice (some ⟨gE,0,none⟩) 0 0) (.slice A24 104 (c - 24)) L24 (by rfl) rfl (by rfl) (by rfl) (by rfl) (hsrc.out _ hHeld.1) hE.out hHeld.1.size (by have:=hl24.out;omega) ?_
  intro AX cX wn hR0 hgr hbg
  (try have hA:=Lib.hid (blk_grown hA.out hgr (fun e=>own_ne hE.out hA.out (by decide) _ e.symm rfl)))
  refine hK.out _ _ ⟨hbg _ _ (Nat.le_refl _) hHeld.1,blk_grown hHeld.2 hgr (fun e=>own_ne hE.out hHeld.2 (by decide) _ e.symm rfl)⟩ (fun hHeld=>?_)
  have hR:=Lib.hid hR0
  clear hgr hbg hR0
  clear hK K;refine norm_ (a':=?_) ?_ ?_
  rotate_left
  ·show Act.put _ (some 26) _=_
   simp only[Act.put,sZ0,sZ1,sZ2,i64_w,i32_w];rfl
  refine pure_ (i:=14) (N:=some 27) (v:=?_) (a':=?_) #[true,true,true,true,true,true,true,true,true,true,true,true,true,true,true,true,false] rfl rfl (by kernel_rfl) (fun _ _ _ h=>h) (Or.inl ⟨by rfl,?_⟩) ?_ ?_
  rotate_left
  ·intro w'
   have hq:=hGb.out AX cX w';go_simp;with_reducible rfl
  rotate_left
  ·simp only[Act.put,sZ0,sZ1,sZ2,i64_w,i32_w];rfl
  refine last_ (i:=16) (N:=none) #[true,true,true,true,true,true,true,true,true,true,true,true,true,true,true,true,true] rfl rfl (by kernel_rfl) (by decide) (fun K hK=>?_)
  refine step_store 25 (.tmp 4) (.tmp 27) g4 (G AX cX) 25 Z (by rfl) rfl (by rfl) (by rfl) (by rfl) hA.out (hGs.out _ _) (hGZ.out _ _) (hGo.out _ _) ?_
  intro wn hA1 hbut hbel
  refine hK.out _ _ ?_
  have hR:=Lib.hid (own_move hR.out (fun k hk=>hbut.2 k (hR.out.lt k hk).2 (fun e=>own_ne hR.out hA.out (by decide) k hk e)))
  have hfin:SlMid w X (.pointer (some ⟨g4,0,none⟩)) wn:=⟨g4,AX,cX,rfl,by rw[hA1,hG'.out],by rw[hXl.out];exact hR.out,hg.out,by rw[← hZ'.out];exact (hbut.2 _ (lt_of_heap hHeld.2) (Nat.ne_of_lt hg.out)).trans hHeld.2,hHeld.1.trans (hbel _ (Nat.le_of_lt hg.out))⟩
  have hfin':=Lib.hid hfin
  clear hA1 hbut hbel hfin
  clear hK K;refine done_ (by kernel_rfl) ?_
  go_step;go_step
  go_meet
  exact hfin'.out
 case rest=>
  obtain ⟨g4,AX,cX,rfl,hg4,hRX,hlt,hg2,hbw⟩:=hcut
  obtain ⟨-,hcX,hCX⟩:=C_of_own hRX
  have hCs:∀ W:World,Below wc.heap.size wc W→(W.setRow w.heap.size (slcl X AX cX).toArray).ownsRow w.heap.size 5 1 (.slice AX X.wrap.length cX) X.wrap.length (nums .u8 X.wrap):=fun W h=>by
   have h1:=own_move (w1:=W) hRX (fun k hk=>h.block k (hRX.lt k hk).2)
   have h2:=own_move (w1:=W.setRow w.heap.size (slcl X AX cX).toArray) h1 (fun k hk=>setRow_other W w.heap.size k _ (fun e=>own_ne h1 (heap_below hg2 h) (by decide) k hk e))
   exact h2
  have hn0:=Lib.hid (numTo A c l hb'.out 4 (by have:=hl'.out;omega) (by have:=hl'.out;omega) (by decide))
  have hs0:∀ W:World,(Instr.slice 23 (.slice A 128 c) none (some (.int .i64 4)) none).run Try.prog W=.ok (.slice A 4 c) W:=fun W=>cut_to A 128 c 4 (by omega) W
  have hrr:slRead l=if valL (l.take 4)=16777216∧slRight X=true then some X else none:=by unfold slRead;rw[if_neg h0'.out,hX'.out]
  obtain ⟨V0,hV0⟩:∃ V,V=valL (l.take 4):=⟨_,rfl⟩
  rw[← hV0] at hn0 hrr
  have hn0':=Lib.hid (fun (W:World) (h:Below w.heap.size w W)=>hn0.out W (Kd.C_below hC'.out h))
  have hq:=sl_cells hg4
  obtain ⟨c0,c1,c2,c3,c4⟩:=hq
  have hri:=Lib.hid (fun (W:World) (h:Below wc.heap.size wc W)=>slot_Right.calls X.used X.size X.epoch X.count AX cX X.wrap (slRight X) W (Kd.C_below hCX h) hcX (slRight_eq X))
  have hg4':=Lib.hid hg4
  have hg2':=Lib.hid (show wc.heap[w.heap.size]?=some (.cells Z 25 (0,0)) by rw[hZ'.out];exact hg2)
  have hbw':=Lib.hid hbw
  have hCX':=Lib.hid hCs
  have hcX':=Lib.hid hcX
  have hlt':=Lib.hid hlt
  have hrr':=Lib.hid hrr
  have hsz4:=Lib.hid (show (Try.prog.info? 25).map (·.size)=some (slcl X AX cX).toArray.size from szSl)
  have hone4:=Lib.hid (slcl_one X AX cX)
  obtain ⟨CX,hCXa⟩:∃ CX,CX=(slcl X AX cX).toArray:=⟨_,rfl⟩
  rw[← hCXa] at hg4' hsz4 hone4
  have hCXa':=Lib.hid hCXa
  have hZX:=Lib.hid (show Z.size=CX.size by rw[hZ'.out,hCXa];rfl)
  clear hn0 hV0 hrr hg4 hg2 hbw hCX hcX hlt hCXa hRX hCs
  by_cases hV:V0=16777216
  ·have hne:(V0 != 16777216)=false:=by rw[hV];rfl
   cases hr:slRight X
   ·rw[hr] at hri
    have hfin:=Lib.hid (show slRead l=none by rw[hrr'.out,if_neg (by rw[hr];simp)])
    clear hr hV
    go_wp2_with (first
     |((with_reducible go_at_call 49);refine (hn0'.out _ hbw'.out).mono ?_;rintro e w4 ⟨rfl,hd⟩;have hb4:=Lib.hid (drawn_below hd);have d0:=pw_cell_below hb4.out c0;have d1:=pw_cell_below hb4.out c1;have d2:=pw_cell_below hb4.out c2;have d3:=pw_cell_below hb4.out c3;have d4:=pw_cell_below hb4.out c4;clear hd)
     |((with_reducible go_at_call 45);refine (hri.out _ hb4.out).mono ?_;rintro e w5 ⟨rfl,hb⟩;have hb5:=Lib.hid (below_step hb4.out hb);have g5:=Lib.hid (heap_below hg2'.out hb5.out);clear hb)
     |(with_reducible refine wpList_store_row rfl 25 _ _ rfl w.heap.size Z rfl rfl 25 Z g5.out hszZ.out rfl honeZ.out ?_))
    have hq:=setRow_heap w5 w.heap.size Z Z 25 (0,0) g5.out
    refine bodyPost_ret (v:=.tuple #[.agg Z,.int .i64 1]) (results_ct rfl _ _ w.heap.size 25 _ (0,0) _ (by rfl) hq Try.underlying25 rfl hszZ.out (by rfl)) rfl ?_
    rw[hfin.out]
    exact ⟨none,0,by rw[hZ'.out];rfl,World.ownsRow_nil _ _ _ _,below_setRow (hbw'.out.trans (hb5.out.mono hbw'.out.size)) (Nat.le_refl _) _⟩
   rw[hr] at hri
   have hfin:=Lib.hid (show slRead l=some X by rw[hrr'.out,if_pos ⟨hV,hr⟩])
   clear hr hV
   go_wp2_with (first
    |((with_reducible go_at_call 49);refine (hn0'.out _ hbw'.out).mono ?_;rintro e w4 ⟨rfl,hd⟩;have hb4:=Lib.hid (drawn_below hd);have d0:=pw_cell_below hb4.out c0;have d1:=pw_cell_below hb4.out c1;have d2:=pw_cell_below hb4.out c2;have d3:=pw_cell_below hb4.out c3;have d4:=pw_cell_below hb4.out c4;clear hd)
    |((with_reducible go_at_call 45);refine (hri.out _ hb4.out).mono ?_;rintro e w5 ⟨rfl,hb⟩;have hb5:=Lib.hid (below_step hb4.out hb);have g5:=Lib.hid (heap_below hg2'.out hb5.out);have g6:=Lib.hid (heap_below hg4'.out hb5.out);clear hb d0 d1 d2 d3 d4)
    |(with_reducible refine wpList_load_row rfl 25 _ rfl g4 rfl 25 CX (0,0) _ g6.out Try.underlying25 rfl hsz4.out ?_)
    |(with_reducible refine wpList_store_row rfl 25 _ _ rfl w.heap.size CX rfl rfl 25 Z g5.out hsz4.out hZX.out hone4.out ?_))
   have hq:=setRow_heap w5 w.heap.size Z CX 25 (0,0) g5.out
   refine bodyPost_ret (v:=.tuple #[.agg CX,.int .i64 0]) (results_ct rfl _ _ w.heap.size 25 _ (0,0) _ (by rfl) hq Try.underlying25 rfl hsz4.out (by rfl)) rfl ?_
   rw[hfin.out]
   have hbf:=hbw'.out.trans (hb5.out.mono hbw'.out.size)
   have hRX:=hCX'.out _ hb5.out
   rw[← hCXa'.out] at hRX
   exact ⟨AX,cX,by rw[hCXa'.out];rfl,hRX,below_setRow hbf (Nat.le_refl _) _⟩
  have hne:(V0 != 16777216)=true:=by simpa using hV
  have hfin:=Lib.hid (show slRead l=none by rw[hrr'.out,if_neg (fun h=>hV h.1)])
  clear hV
  go_wp2_with (first
   |((with_reducible go_at_call 49);refine (hn0'.out _ hbw'.out).mono ?_;rintro e w4 ⟨rfl,hd⟩;have hb5:=Lib.hid (drawn_below hd);have g5:=Lib.hid (heap_below hg2'.out hb5.out);clear hd)
   |(with_reducible refine wpList_store_row rfl 25 _ _ rfl w.heap.size Z rfl rfl 25 Z g5.out hszZ.out rfl honeZ.out ?_))
  have hq:=setRow_heap w4 w.heap.size Z Z 25 (0,0) g5.out
  refine bodyPost_ret (v:=.tuple #[.agg Z,.int .i64 1]) (results_ct rfl _ _ w.heap.size 25 _ (0,0) _ (by rfl) hq Try.underlying25 rfl hszZ.out (by rfl)) rfl ?_
  rw[hfin.out]
  exact ⟨none,0,by rw[hZ'.out];rfl,World.ownsRow_nil _ _ _ _,below_setRow (hbw'.out.trans (hb5.out.mono hbw'.out.size)) (Nat.le_refl _) _⟩
end Go.Proofs.Ytbajioiiaamokaa.Own
