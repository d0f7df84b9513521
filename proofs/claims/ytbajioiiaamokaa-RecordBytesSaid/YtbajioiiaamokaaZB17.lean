/- ShS, pruned (slim.py). -/
import Derived.Test.YtbajioiiaamokaaZB16
namespace Go.Proofs.Ytbajioiiaamokaa.Own
open Go.RowKit Go.Proofs.Ytbajioiiaamokaa.Arr Go.Proofs.Ytbajioiiaamokaa.QB Go.Proofs.YtbajioiiaamokaaW.PrintWords Go.Proofs.YtbajioiiaamokaaW.PrintLast Go.Proofs.YtbajioiiaamokaaW.PrintMore
set_option linter.unusedVariables false
set_option linter.unusedSimpArgs false
theorem outL_take (F:List Int) (k:Nat) (h:k<F.length):outL (F.take (k+1))=outL (F.take k)++big4 (IntKind.u64.wrap (F.getD k 0)):=by
 unfold outL
 rw[List.take_succ_eq_append_getElem h,List.map_append,List.flatten_append]
 simp[h]
theorem outL_length (F:List Int):(outL F).length=4*F.length:=by
 induction F with
 |nil=>rfl
 |cons x F ih=>simp only[outL,List.map_cons,List.flatten_cons,List.length_append,List.length_cons] at ih ⊢;rw[ih];simp[big4];omega
theorem outL_le (F:List Int) (n:Nat) (h:F.length≤250):(outL F).length≤1000:=by rw[outL_length];omega
theorem copy_bytes {w:World} {A:Option Addr} {c:Nat} {l:List Int} (ty:TypeId) (b:Nat) (h:Kd.C (Kd.int .u8) w A l.length l) {cs:Array Value} {t:TypeId} (hb:w.heap[b]?=some (.cells cs t (0,0))) (hcs:cs.size=l.length) :
  (Builtin.copy_ #[23,23] ty #[.slice (some ⟨b,0,none⟩) l.length l.length,.slice A l.length c]).run Try.prog w=.ok (.int .i64 (l.length:Int)) (w.setCells b 0 (l.map (Value.int .u8))):=by
 have hsz:(Try.prog.info? 5).map (·.size)=some 1:=by kernel_rfl
 rcases Nat.eq_zero_or_pos l.length with h0 | h0
 ·obtain rfl:=List.length_eq_zero_iff.1 h0
  obtain ⟨i0,hi,_,hs,_⟩:=info_parts info5
  cases A <;> simp[Builtin.copy_,run_underlying Try.underlying23,Builtin.lenOf,Builtin.firstCells,sizeOf,typeInfo,hi,hs,loadCells,loadCellsFrom,storeCells,World.setCells,goInt]
 obtain ⟨b',o',rfl,hr⟩:=C_range h h0
 have:=run_copy_cells (P:=Try.prog) w 23 23 ty 5 b 0 l.length l.length ⟨b',o',none⟩ l.length c (l.map (Value.int .u8)) Try.underlying23 hsz (by rw[List.length_map];simp[Nat.min_def]) (fun j v hj=>by rw[Addr.add_mid];exact hr j v hj)
  (fun j hj=>by rw[Nat.zero_add,cell_of_row w b j _ _ _ hb];simp at hj;simp[hcs,hj]) (fun j hj=>by rw[Nat.zero_add];exact frozen_of_row w b j _ _ hb) (u8_one l)
 rw[this]
 simp[goInt]
set_option maxHeartbeats 4000000 in
set_option maxRecDepth 100000 in
theorem sum_any (w:World) (g:Nat) (S:List Int) (A:Option Addr) (c:Nat) (l:List Int) (n:Nat) (h:HashAt w g S A c l n true) (hll:l.length≤1099511627776) (hnb:n≤1099511627776) :
  Calls Try.prog 89 #[.pointer (some ⟨g,0,none⟩)] w fun e w'=>∃ v0_:Value,e=.returned v0_∧Kd.R (Kd.int .u8) 5 w' w.heap.size (fun _=>True) v0_ (outL (absorb ((l++tailL n).length / 64) S (l++tailL n)))∧Below w.heap.size w w':=by
 obtain ⟨S0,hS⟩:∃ S,S=H0:=⟨_,rfl⟩
 have hnew:=new_any w
 rw[← hS] at hnew
 have hnew':=Lib.hid hnew
 have h':=Lib.hid h
 have hs8':=Lib.hid h.st8
 clear hnew hS h
 go_enter Try.func89,Try.ntmps89
 go_wp2_with (go_at_call 86;refine hnew'.out.mono ?_;rintro e w1 ⟨gx,rfl,hgx,hx,hbW⟩;have hx0:=Lib.hid hx.obj;have hx08:=Lib.hid hx.st8;have hbW0:=Lib.hid hbW;have hgx0:=Lib.hid hgx;have hc10:=hcell10 h'.out.st8 (heap_below h'.out.obj hbW);have hat1:=Lib.hid (h'.out.below hbW);have hgg:=Lib.hid (Nat.ne_of_lt (Nat.lt_of_lt_of_le (lt_of_heap h'.out.obj) hgx));clear hx hbW hgx)
 clear hc10
 refine start_ (n:=16) (S:=fun w'=>w'.heap[g]?=some (hobj S (.slice A l.length c) n true)∧w'.heap[gx]?=some (hobj S0 (.slice none 0 0) 0 true)) (ds:=[12,15]) #[false,false,false,false,false,false,false,false,false,false,false,false,false,false,false,false] (by kernel_rfl) rfl rfl (by exact ⟨hat1.out.obj,hx0.out⟩) (fun hHeld=>?_)
 refine pure_ (i:=0) (N:=some 16) (v:=?_) (a':=?_) #[true,false,false,false,false,false,false,false,false,false,false,false,false,false,false,false] rfl rfl (by kernel_rfl) (fun _ _ _ h=>h) (Or.inl ⟨by rfl,?_⟩) ?_ ?_
 rotate_left
 ·intro w';go_simp;with_reducible rfl
 rotate_left
 ·simp only[Act.put,sZ0,sZ1,sZ2,i64_w,i32_w];rfl
 refine pure_ (i:=1) (N:=some 17) (v:=?_) (a':=?_) #[true,true,false,false,false,false,false,false,false,false,false,false,false,false,false,false] rfl rfl (by kernel_rfl) (fun _ _ _ h=>h) (Or.inl ⟨by rfl,?_⟩) ?_ ?_
 rotate_left
 ·intro w';go_simp;with_reducible rfl
 rotate_left
 ·simp only[Act.put,sZ0,sZ1,sZ2,i64_w,i32_w];rfl
 refine pure_ (i:=2) (N:=some 18) (v:=?_) (a':=?_) #[true,true,true,false,false,false,false,false,false,false,false,false,false,false,false,false] rfl rfl (by kernel_rfl) (fun _ _ _ h=>h) (Or.inl ⟨by rfl,?_⟩) ?_ ?_
 rotate_left
 ·intro w';go_simp;with_reducible rfl
 rotate_left
 ·simp only[Act.put,sZ0,sZ1,sZ2,i64_w,i32_w];rfl
 refine pure_ (i:=3) (N:=some 19) (v:=?_) (a':=?_) #[true,true,true,true,false,false,false,false,false,false,false,false,false,false,false,false] rfl rfl (by kernel_rfl) (fun _ _ _ h=>h) (Or.inl ⟨by rfl,?_⟩) ?_ ?_
 rotate_left
 ·intro w';go_simp;with_reducible rfl
 rotate_left
 ·simp only[Act.put,sZ0,sZ1,sZ2,i64_w,i32_w];rfl
 refine pure_ (i:=4) (N:=some 20) (v:=?_) (a':=?_) #[true,true,true,true,true,false,false,false,false,false,false,false,false,false,false,false] rfl rfl (by kernel_rfl) (fun _ _ _ h=>h) (Or.inl ⟨by rfl,?_⟩) ?_ ?_
 rotate_left
 ·intro w';go_simp;with_reducible rfl
 rotate_left
 ·simp only[Act.put,sZ0,sZ1,sZ2,i64_w,i32_w];rfl
 refine take_ (i:=5) (N:=some 21) (v:=?_) (a':=?_) #[true,true,true,true,true,true,false,false,false,false,false,false,false,false,false,false] rfl rfl (by kernel_rfl) (fun _ _ _ h=>h) (Or.inl ⟨by rfl,?_⟩) hHeld ?_ ?_
 rotate_left
 ·intro w' hS
  refine (exec_load_mid w' 138 _ (by rfl) g 0 (by rfl) (S.map (Value.int .u32)) _ (hrange hs8'.out hS.1) Try.underlying138 rfl (by rw[List.length_map,hs8'.out,size8])).trans ?_;show Result.ok (Next.value (Value.agg (ints .u32 S))) w'=_;with_reducible rfl
 rotate_left
 ·simp only[Act.put,sZ0,sZ1,sZ2,i64_w,i32_w];rfl
 refine pure_ (i:=6) (N:=some 22) (v:=?_) (a':=?_) #[true,true,true,true,true,true,true,false,false,false,false,false,false,false,false,false] rfl rfl (by kernel_rfl) (fun _ _ _ h=>h) (Or.inl ⟨by rfl,?_⟩) ?_ ?_
 rotate_left
 ·intro w';go_simp;with_reducible rfl
 rotate_left
 ·simp only[Act.put,sZ0,sZ1,sZ2,i64_w,i32_w];rfl
 refine pure_ (i:=7) (N:=some 23) (v:=?_) (a':=?_) #[true,true,true,true,true,true,true,true,false,false,false,false,false,false,false,false] rfl rfl (by kernel_rfl) (fun _ _ _ h=>h) (Or.inl ⟨by rfl,?_⟩) ?_ ?_
 rotate_left
 ·intro w';go_simp;with_reducible rfl
 rotate_left
 ·simp only[Act.put,sZ0,sZ1,sZ2,i64_w,i32_w];rfl
 refine pure_ (i:=8) (N:=some 24) (v:=?_) (a':=?_) #[true,true,true,true,true,true,true,true,true,false,false,false,false,false,false,false] rfl rfl (by kernel_rfl) (fun _ _ _ h=>h) (Or.inl ⟨by rfl,?_⟩) ?_ ?_
 rotate_left
 ·intro w';go_simp;with_reducible rfl
 rotate_left
 ·simp only[Act.put,sZ0,sZ1,sZ2,i64_w,i32_w];rfl
 refine take_ (i:=9) (N:=some 25) (v:=?_) (a':=?_) #[true,true,true,true,true,true,true,true,true,true,false,false,false,false,false,false] rfl rfl (by kernel_rfl) (fun _ _ _ h=>h) (Or.inl ⟨by rfl,?_⟩) hHeld ?_ ?_
 rotate_left
 ·intro w' hS
  have hq:=hcell9 hs8'.out hS.1
  go_simp;with_reducible rfl
 rotate_left
 ·simp only[Act.put,sZ0,sZ1,sZ2,i64_w,i32_w];rfl
 refine pure_ (i:=10) (N:=some 26) (v:=?_) (a':=?_) #[true,true,true,true,true,true,true,true,true,true,true,false,false,false,false,false] rfl rfl (by kernel_rfl) (fun _ _ _ h=>h) (Or.inl ⟨by rfl,?_⟩) ?_ ?_
 rotate_left
 ·intro w';go_simp;with_reducible rfl
 rotate_left
 ·simp only[Act.put,sZ0,sZ1,sZ2,i64_w,i32_w];rfl
 refine pure_ (i:=11) (N:=some 27) (v:=?_) (a':=?_) #[true,true,true,true,true,true,true,true,true,true,true,true,false,false,false,false] rfl rfl (by kernel_rfl) (fun _ _ _ h=>h) (Or.inl ⟨by rfl,?_⟩) ?_ ?_
 rotate_left
 ·intro w';go_simp;with_reducible rfl
 rotate_left
 ·simp only[Act.put,sZ0,sZ1,sZ2,i64_w,i32_w];rfl
 refine last_ (i:=12) (N:=none) #[true,true,true,true,true,true,true,true,true,true,true,true,true,false,false,false] rfl rfl (by kernel_rfl) (by decide) (fun K hK=>?_)
 refine skip_ (w1:=w1.drew.setCells gx 0 (S.map (Value.int .u32))) (by rfl) rfl ?_ ?_
 ·exact exec_store_mid w1.drew 138 _ _ (by rfl) gx 0 (ints .u32 S) (by rfl) (by rfl) (there8 hx08.out hHeld.2 hs8'.out) (sz8 hs8'.out) (ints_one _ _)
 refine hK.out _ _ ?_
 have hob1:=hsetS hx08.out hHeld.2 S hs8'.out
 have hch1:Chg gx w1 (w1.drew.setCells gx 0 (S.map (Value.int .u32))):=(Chg.refl gx w1).drew.setCells _ _
 obtain ⟨w2,hw2⟩:∃ w2,w2=w1.drew.setCells gx 0 (S.map (Value.int .u32)):=⟨_,rfl⟩
 rw[← hw2] at hob1 hch1 ⊢
 have hob1':=Lib.hid hob1
 have hch1':=Lib.hid hch1
 clear hw2 hHeld hob1 hch1
 clear hK K
 refine pure_ (i:=13) (N:=some 28) (v:=?_) (a':=?_) #[true,true,true,true,true,true,true,true,true,true,true,true,true,true,false,false] rfl rfl (by kernel_rfl) (fun _ _ _ h=>h) (Or.inl ⟨by rfl,?_⟩) ?_ ?_
 rotate_left
 ·intro w';go_simp;with_reducible rfl
 rotate_left
 ·simp only[Act.put,sZ0,sZ1,sZ2,i64_w,i32_w];rfl
 refine pure_ (i:=14) (N:=some 29) (v:=?_) (a':=?_) #[true,true,true,true,true,true,true,true,true,true,true,true,true,true,true,false] rfl rfl (by kernel_rfl) (fun _ _ _ h=>h) (Or.inl ⟨by rfl,?_⟩) ?_ ?_
 rotate_left
 ·intro w';go_simp;with_reducible rfl
 rotate_left
 ·simp only[Act.put,sZ0,sZ1,sZ2,i64_w,i32_w];rfl
 refine last_ (i:=15) (N:=none) #[true,true,true,true,true,true,true,true,true,true,true,true,true,true,true,true] rfl rfl (by kernel_rfl) (by decide) (fun K hK=>?_)
 have hq:=hcell9 hs8'.out hob1'.out
 have hf:=hfree hob1'.out 9
 refine skip_ (w1:=w2.setCell ⟨gx,9,none⟩ (.int .i64 n)) (by rfl) rfl (by go_simp;done) ?_
 refine hK.out _ _ ?_
 have hob3:=Lib.hid (hset9 hs8'.out hob1'.out (n:Int))
 have hch3:=Lib.hid (hch1'.out.setCell 9 (.int .i64 n))
 obtain ⟨w3,hw3⟩:∃ w3,w3=w2.setCell ⟨gx,9,none⟩ (.int .i64 n):=⟨_,rfl⟩
 rw[← hw3] at hob3 hch3 ⊢
 clear hw3 hq hf hob1' hch1'
 clear hK K;refine done_ (by kernel_rfl) ?_
 have hd8:=hcell8 hs8'.out ((hch3.out.block g (lt_of_heap hat1.out.obj) hgg.out).trans hat1.out.obj)
 have hmk:=run_make_row' (P:=Try.prog) 23 5 (.int .u8 0) 1 Try.underlying23 info5 rfl .i64 .i64 l.length (by omega) (by omega)
 have hx8:∀ o,(w3.alloc o).cell? ⟨gx,8,none⟩=some (.slice none 0 0):=fun o=>hcell8 hs8'.out (by rw[heap_skip _ _ _ (Nat.ne_of_lt (lt_of_heap hob3.out))];exact hob3.out)
 have hxf:∀ o,(w3.alloc o).frozen? ⟨gx,8,none⟩=false:=fun o=>hfree (by rw[heap_skip _ _ _ (Nat.ne_of_lt (lt_of_heap hob3.out))];exact hob3.out) 8
 have hll0:=Lib.hid hll
 have hnb0:=Lib.hid hnb
 clear hll hnb
 go_wp2_with fail
 have hmz:(madeCells #[Value.int IntKind.u8 0] l.length).size=l.length:=by simp[madeCells]
 generalize madeCells #[Value.int IntKind.u8 0] l.length=mc at hmz ⊢
 have hob4:((w3.alloc (.cells mc 5)).setCell ⟨gx,8,none⟩ (.slice (some ⟨w3.heap.size,0,none⟩) l.length l.length)).heap[gx]?=some (hobj S (.slice (some ⟨w3.heap.size,0,none⟩) l.length l.length) n true):=hset8 hs8'.out (by rw[heap_skip _ _ _ (Nat.ne_of_lt (lt_of_heap hob3.out))];exact hob3.out) _
 have hmb4:((w3.alloc (.cells mc 5)).setCell ⟨gx,8,none⟩ (.slice (some ⟨w3.heap.size,0,none⟩) l.length l.length)).heap[w3.heap.size]?=some (.cells mc 5 (0,0)):=by
  rw[heap_setCell_other _ _ _ _ (Nat.ne_of_gt (lt_of_heap hob3.out))];exact heap_at _ _ _ rfl
 have hch4:Chg gx w1 ((w3.alloc (.cells mc 5)).setCell ⟨gx,8,none⟩ (.slice (some ⟨w3.heap.size,0,none⟩) l.length l.length)):=(hch3.out.alloc _).setCell _ _
 generalize ((w3.alloc (.cells mc 5)).setCell ⟨gx,8,none⟩ (.slice (some ⟨w3.heap.size,0,none⟩) l.length l.length))=w4 at hob4 hmb4 hch4 ⊢
 have hbm:Hid (gx<w3.heap.size):=Lib.hid (lt_of_heap hob3.out)
 have hw13:Hid (w1.heap.size≤w3.heap.size):=Lib.hid hch3.out.size
 generalize w3.heap.size=bm at hob4 hmb4 hbm hw13 ⊢
 have hob4':=Lib.hid hob4
 have hmb4':=Lib.hid hmb4
 have hch4':=Lib.hid hch4
 have hmz':=Lib.hid hmz
 have hat4:=Lib.hid (show HashAt w4 g S A c l n true from ⟨hs8'.out,(hch4.block g (lt_of_heap hat1.out.obj) hgg.out).trans hat1.out.obj,⟨h'.out.rd.1,fun hl=>by obtain ⟨b,o,rfl,hb,hr⟩:=h'.out.rd.2 hl;exact ⟨b,o,rfl,hb,range_keep hr (by have hlt:=Rd.lt (A:=none) (g:=g) hl hr;rw[hch4.block b (by have:=hbW0.out.size;omega) (by have:=hgx0.out;omega),hbW0.out.block b hlt])⟩⟩,hat1.out.cap⟩)
 clear hob4 hmb4 hch4 hmz hob3 hch3 hx8 hxf hmk hd8 hx0 hx08 hat1
 refine start_ (n:=9) (S:=fun w'=>w'.heap[g]?=some (hobj S (.slice A l.length c) n true)∧w'.heap[gx]?=some (hobj S (.slice (some ⟨bm,0,none⟩) l.length l.length) n true)) (ds:=[8]) #[false,false,false,false,false,false,false,false,false] (by kernel_rfl) rfl rfl (by exact ⟨hat4.out.obj,hob4'.out⟩) (fun hHeld=>?_)
 refine pure_ (i:=0) (N:=some 39) (v:=?_) (a':=?_) #[true,false,false,false,false,false,false,false,false] rfl rfl (by kernel_rfl) (fun _ _ _ h=>h) (Or.inl ⟨by rfl,?_⟩) ?_ ?_
 rotate_left
 ·intro w';go_simp;with_reducible rfl
 rotate_left
 ·simp only[Act.put,sZ0,sZ1,sZ2,i64_w,i32_w];rfl
 refine pure_ (i:=1) (N:=some 40) (v:=?_) (a':=?_) #[true,true,false,false,false,false,false,false,false] rfl rfl (by kernel_rfl) (fun _ _ _ h=>h) (Or.inl ⟨by rfl,?_⟩) ?_ ?_
 rotate_left
 ·intro w';go_simp;with_reducible rfl
 rotate_left
 ·simp only[Act.put,sZ0,sZ1,sZ2,i64_w,i32_w];rfl
 refine pure_ (i:=2) (N:=some 41) (v:=?_) (a':=?_) #[true,true,true,false,false,false,false,false,false] rfl rfl (by kernel_rfl) (fun _ _ _ h=>h) (Or.inl ⟨by rfl,?_⟩) ?_ ?_
 rotate_left
 ·intro w';go_simp;with_reducible rfl
 rotate_left
 ·simp only[Act.put,sZ0,sZ1,sZ2,i64_w,i32_w];rfl
 refine take_ (i:=3) (N:=some 42) (v:=?_) (a':=?_) #[true,true,true,true,false,false,false,false,false] rfl rfl (by kernel_rfl) (fun _ _ _ h=>h) (Or.inl ⟨by rfl,?_⟩) hHeld ?_ ?_
 rotate_left
 ·intro w' hS
  have hq:=hcell8 hs8'.out hS.2
  go_simp;with_reducible rfl
 rotate_left
 ·simp only[Act.put,sZ0,sZ1,sZ2,i64_w,i32_w];rfl
 refine pure_ (i:=4) (N:=some 43) (v:=?_) (a':=?_) #[true,true,true,true,true,false,false,false,false] rfl rfl (by kernel_rfl) (fun _ _ _ h=>h) (Or.inl ⟨by rfl,?_⟩) ?_ ?_
 rotate_left
 ·intro w';go_simp;with_reducible rfl
 rotate_left
 ·simp only[Act.put,sZ0,sZ1,sZ2,i64_w,i32_w];rfl
 refine pure_ (i:=5) (N:=some 44) (v:=?_) (a':=?_) #[true,true,true,true,true,true,false,false,false] rfl rfl (by kernel_rfl) (fun _ _ _ h=>h) (Or.inl ⟨by rfl,?_⟩) ?_ ?_
 rotate_left
 ·intro w';go_simp;with_reducible rfl
 rotate_left
 ·simp only[Act.put,sZ0,sZ1,sZ2,i64_w,i32_w];rfl
 refine pure_ (i:=6) (N:=some 45) (v:=?_) (a':=?_) #[true,true,true,true,true,true,true,false,false] rfl rfl (by kernel_rfl) (fun _ _ _ h=>h) (Or.inl ⟨by rfl,?_⟩) ?_ ?_
 rotate_left
 ·intro w';go_simp;with_reducible rfl
 rotate_left
 ·simp only[Act.put,sZ0,sZ1,sZ2,i64_w,i32_w];rfl
 refine take_ (i:=7) (N:=some 46) (v:=?_) (a':=?_) #[true,true,true,true,true,true,true,true,false] rfl rfl (by kernel_rfl) (fun _ _ _ h=>h) (Or.inl ⟨by rfl,?_⟩) hHeld ?_ ?_
 rotate_left
 ·intro w' hS
  have hq:=hcell8 hs8'.out hS.1
  go_simp;with_reducible rfl
 rotate_left
 ·simp only[Act.put,sZ0,sZ1,sZ2,i64_w,i32_w];rfl
 refine last_ (i:=8) (N:=some 47) #[true,true,true,true,true,true,true,true,true] rfl rfl (by kernel_rfl) (by decide) (fun K hK=>?_)
 have hcp:=copy_bytes (w:=w4.drew) (c:=c) 3 bm (hat4.out.rd.keep (Chg.refl g w4).drew).toC (cs:=mc) (t:=5) hmb4'.out hmz'.out
 refine value_ (w1:=w4.drew.setCells bm 0 (l.map (Value.int .u8))) (v:=.int .i64 (l.length:Int)) (by rfl) rfl (exec_copy _ (.tmp 42) (.tmp 46) 23 23 (by rfl) (.slice (some ⟨bm,0,none⟩) l.length l.length) (.slice A l.length c) (by rfl) (by rfl) (by exact hcp)) ?_
 refine hK.out _ _ ?_
 have hob5:(w4.drew.setCells bm 0 (l.map (Value.int .u8))).heap[gx]?=some (hobj S (.slice (some ⟨bm,0,none⟩) l.length l.length) n true):=(setCells_other _ _ _ _ (Nat.ne_of_lt hbm.out)).trans hob4'.out
 have hrd5:Rd (w4.drew.setCells bm 0 (l.map (Value.int .u8))) gx (some ⟨bm,0,none⟩) l:=⟨hat4.out.rd.1,fun _=>⟨bm,0,rfl,Nat.ne_of_gt hbm.out,World.rangeAt_setCells_same _ _ _ _ (fun j hj=>⟨by rw[Nat.zero_add,cell_of_row w4.drew bm j _ _ _ hmb4'.out];simp at hj;simp[hmz'.out,hj],by rw[Nat.zero_add];exact frozen_of_row w4.drew bm j _ _ hmb4'.out⟩)⟩⟩
 have hx5:HashAt (w4.drew.setCells bm 0 (l.map (Value.int .u8))) gx S (some ⟨bm,0,none⟩) l.length l n true:=⟨hs8'.out,hob5,hrd5,Nat.le_refl _⟩
 have hbw5:Below w.heap.size w (w4.drew.setCells bm 0 (l.map (Value.int .u8))):=(hbW0.out.trans (hch4'.out.below hgx0.out hbW0.out.size)).trans (((Chg.refl bm w4).drew.setCells 0 (l.map (Value.int .u8))).below (by have:=hgx0.out;have:=hbm.out;omega) (by have:=hbW0.out.size;have:=hch4'.out.size;omega))
 generalize w4.drew.setCells bm 0 (l.map (Value.int .u8))=w5 at hx5 hbw5 ⊢
 clear hK K;refine norm_ (a':=?_) ?_ ?_
 rotate_left
 ·show Act.put _ (some 47) _=_
  simp only[Act.put,sZ0,sZ1,sZ2,i64_w,i32_w];rfl
 refine done_ (by kernel_rfl) ?_
 have hx:=hx5
 have hbW:=hbw5
 have hgx:=hgx0.out
 have hll:=hll0.out
 have hnb:=hnb0.out
 clear hcp hob5 hrd5 hx5 hbw5 hgx0 hll0 hnb0 hHeld hob4' hmb4' hch4' hmz' hat4 hbm hw13 hnew' hbW0 hgg h'
 obtain ⟨Am,hAm⟩:∃ Am:Option Addr,Am=some ⟨bm,0,none⟩:=⟨_,rfl⟩
 rw[← hAm] at hx ⊢
 clear hAm
 have hxs':=Lib.hid hx.st8
 have hx':=Lib.hid hx
 have hbW':=Lib.hid hbW
 have hgx':=Lib.hid hgx
 obtain ⟨T,hT⟩:∃ T,T=tailL n:=⟨_,rfl⟩
 have htail:=tail_eq n hnb 0
 rw[← hT] at htail
 have hTl:T.length≤73:=by rw[hT,tail_length];have:=zerosN_lt n;omega
 have htail':=Lib.hid htail
 have hTl':=Lib.hid hTl
 have hT':=Lib.hid hT
 have hll':=Lib.hid hll
 clear hx hbW hgx hT htail hTl hnb hll
 go_wp2_with fail
 refine start_ (n:=14) (S:=fun w'=>w'.heap[gx]?=some (hobj S (.slice Am l.length l.length) n true)) (ds:=[13]) #[false,false,false,false,false,false,false,false,false,false,false,false,false,false] (by kernel_rfl) rfl rfl (by exact hx'.out.obj) (fun hHeld=>?_)
 refine pure_ (i:=0) (N:=some 48) (v:=?_) (a':=?_) #[true,false,false,false,false,false,false,false,false,false,false,false,false,false] rfl rfl (by kernel_rfl) (fun _ _ _ h=>h) (Or.inl ⟨by rfl,?_⟩) ?_ ?_
 rotate_left
 ·intro w';go_simp;with_reducible rfl
 rotate_left
 ·simp only[Act.put,sZ0,sZ1,sZ2,i64_w,i32_w];rfl
 refine pure_ (i:=1) (N:=some 49) (v:=?_) (a':=?_) #[true,true,false,false,false,false,false,false,false,false,false,false,false,false] rfl rfl (by kernel_rfl) (fun _ _ _ h=>h) (Or.inl ⟨by rfl,?_⟩) ?_ ?_
 rotate_left
 ·intro w';go_simp;with_reducible rfl
 rotate_left
 ·simp only[Act.put,sZ0,sZ1,sZ2,i64_w,i32_w];rfl
 refine pure_ (i:=2) (N:=some 50) (v:=?_) (a':=?_) #[true,true,true,false,false,false,false,false,false,false,false,false,false,false] rfl rfl (by kernel_rfl) (fun _ _ _ h=>h) (Or.inl ⟨by rfl,?_⟩) ?_ ?_
 rotate_left
 ·intro w';go_simp;with_reducible rfl
 rotate_left
 ·simp only[Act.put,sZ0,sZ1,sZ2,i64_w,i32_w];rfl
 refine pure_ (i:=3) (N:=some 51) (v:=?_) (a':=?_) #[true,true,true,true,false,false,false,false,false,false,false,false,false,false] rfl rfl (by kernel_rfl) (fun _ _ _ h=>h) (Or.inl ⟨by rfl,?_⟩) ?_ ?_
 rotate_left
 ·intro w';go_simp;with_reducible rfl
 rotate_left
 ·simp only[Act.put,sZ0,sZ1,sZ2,i64_w,i32_w];rfl
 refine take_ (i:=4) (N:=some 52) (v:=?_) (a':=?_) #[true,true,true,true,true,false,false,false,false,false,false,false,false,false] rfl rfl (by kernel_rfl) (fun _ _ _ h=>h) (Or.inl ⟨by rfl,?_⟩) hHeld ?_ ?_
 rotate_left
 ·intro w' hS
  have hq:=hcell8 hxs'.out hS
  go_simp;with_reducible rfl
 rotate_left
 ·simp only[Act.put,sZ0,sZ1,sZ2,i64_w,i32_w];rfl
 refine pure_ (i:=5) (N:=some 53) (v:=?_) (a':=?_) #[true,true,true,true,true,true,false,false,false,false,false,false,false,false] rfl rfl (by kernel_rfl) (fun _ _ _ h=>h) (Or.inl ⟨by rfl,?_⟩) ?_ ?_
 rotate_left
 ·intro w';go_simp;with_reducible rfl
 rotate_left
 ·simp only[Act.put,sZ0,sZ1,sZ2,i64_w,i32_w];rfl
 refine pure_ (i:=6) (N:=some 54) (v:=?_) (a':=?_) #[true,true,true,true,true,true,true,false,false,false,false,false,false,false] rfl rfl (by kernel_rfl) (fun _ _ _ h=>h) (Or.inl ⟨by rfl,?_⟩) ?_ ?_
 rotate_left
 ·intro w';go_simp;with_reducible rfl
 rotate_left
 ·simp only[Act.put,sZ0,sZ1,sZ2,i64_w,i32_w];rfl
 refine pure_ (i:=7) (N:=some 55) (v:=?_) (a':=?_) #[true,true,true,true,true,true,true,true,false,false,false,false,false,false] rfl rfl (by kernel_rfl) (fun _ _ _ h=>h) (Or.inl ⟨by rfl,?_⟩) ?_ ?_
 rotate_left
 ·intro w';go_simp;with_reducible rfl
 rotate_left
 ·simp only[Act.put,sZ0,sZ1,sZ2,i64_w,i32_w];rfl
 refine take_ (i:=8) (N:=some 56) (v:=?_) (a':=?_) #[true,true,true,true,true,true,true,true,true,false,false,false,false,false] rfl rfl (by kernel_rfl) (fun _ _ _ h=>h) (Or.inl ⟨by rfl,?_⟩) hHeld ?_ ?_
 rotate_left
 ·intro w' hS
  have hq:=hcell9 hxs'.out hS
  go_simp;with_reducible rfl
 rotate_left
 ·simp only[Act.put,sZ0,sZ1,sZ2,i64_w,i32_w];rfl
 refine one_ (i:=9) (N:=some 57) #[true,true,true,true,true,true,true,true,true,true,false,false,false,false] rfl rfl (by kernel_rfl) (by decide) (fun K hK=>?_)
 refine goes_ Try.func99 (by kernel_rfl) rfl #[.int .i64 n] (by rfl) rfl rfl (by simp only[List.map_toArray,List.map_cons,List.map_nil];rfl) ?_
 refine (sha_tail.calls _ n T _ htail'.out).mono ?_
 rintro e w2 ⟨vt,rfl,hRt,hb2⟩
 refine ⟨_,rfl,?_⟩
 obtain ⟨At,ct,rfl⟩:=Kd.R_slice hRt
 have hCt:=Lib.hid (Kd.R_reads' hRt).2.2
 clear hRt
 have hRl:=Lib.hid (hx'.out.rd.keep ((Chg.refl gx w5).drew.trans (Chg.of_below hb2)))
 have hch2:=Lib.hid ((Chg.refl gx w5).drew.trans (Chg.of_below hb2))
 refine hK.out _ _ (heap_below hHeld hb2) (fun hHeld=>?_)
 have hb2':=Lib.hid hb2
 clear hb2
 clear hK K;refine norm_ (a':=?_) ?_ ?_
 rotate_left
 ·show Act.put _ (some 57) _=_
  simp only[Act.put,sZ0,sZ1,sZ2,i64_w,i32_w];rfl
 refine one_ (i:=10) (N:=some 58) #[true,true,true,true,true,true,true,true,true,true,true,false,false,false] rfl rfl (by kernel_rfl) (by decide) (fun K hK=>?_)
 obtain ⟨A1,c1,w3,hrun,hC1,hc1,hb3,hA1⟩:=append_full (w:=w2) (cb:=ct) 23 hRl.out.toC hCt.out (by have:=hTl'.out;have:=hll'.out;omega)
 refine value_ (w1:=w3) (v:=.slice A1 (l++T).length c1) (by rfl) rfl (exec_append _ (.tmp 52) (.tmp 57) 23 23 (by rfl) (.slice Am l.length l.length) (.slice At T.length ct) (by rfl) (by rfl) (by exact hrun)) ?_
 refine hK.out _ _ (heap_below hHeld hb3) (fun hHeld=>?_)
 clear hK K;refine norm_ (a':=?_) ?_ ?_
 rotate_left
 ·show Act.put _ (some 58) _=_
  simp only[Act.put,sZ0,sZ1,sZ2,i64_w,i32_w];rfl
 refine pure_ (i:=11) (N:=some 59) (v:=?_) (a':=?_) #[true,true,true,true,true,true,true,true,true,true,true,true,false,false] rfl rfl (by kernel_rfl) (fun _ _ _ h=>h) (Or.inl ⟨by rfl,?_⟩) ?_ ?_
 rotate_left
 ·intro w';go_simp;with_reducible rfl
 rotate_left
 ·simp only[Act.put,sZ0,sZ1,sZ2,i64_w,i32_w];rfl
 refine pure_ (i:=12) (N:=some 60) (v:=?_) (a':=?_) #[true,true,true,true,true,true,true,true,true,true,true,true,true,false] rfl rfl (by kernel_rfl) (fun _ _ _ h=>h) (Or.inl ⟨by rfl,?_⟩) ?_ ?_
 rotate_left
 ·intro w';go_simp;with_reducible rfl
 rotate_left
 ·simp only[Act.put,sZ0,sZ1,sZ2,i64_w,i32_w];rfl
 refine last_ (i:=13) (N:=none) #[true,true,true,true,true,true,true,true,true,true,true,true,true,true] rfl rfl (by kernel_rfl) (by decide) (fun K hK=>?_)
 have hq:=hcell8 hxs'.out hHeld
 have hf:=hfree hHeld 8
 refine skip_ (w1:=w3.setCell ⟨gx,8,none⟩ (.slice A1 (l++T).length c1)) (by rfl) rfl (by go_simp;done) ?_
 refine hK.out _ _ ?_
 have hR1:Rd w3 gx A1 (l++T):=by
  rcases hA1 with ⟨rfl,h0⟩ | rfl
  ·rw[h0,List.append_nil];exact hRl.out.keep (Chg.of_below hb3)
  exact Rd.ofC hC1 (fun ad e=>by obtain rfl:=Option.some.inj e;exact Nat.ne_of_gt (Nat.lt_of_lt_of_le (lt_of_heap hx'.out.obj) hch2.out.size))
 have hobj2:=hset8 hxs'.out hHeld (.slice A1 (l++T).length c1)
 have hbw4:Below w.heap.size w (w3.setCell ⟨gx,8,none⟩ (.slice A1 (l++T).length c1)):=(below_step (below_step (below_drew hbW'.out) hb2'.out) hb3).setCell hgx'.out _
 have hR2:Rd (w3.setCell ⟨gx,8,none⟩ (.slice A1 (l++T).length c1)) gx A1 (l++T):=hR1.keep ((Chg.refl gx w3).setCell _ _)
 obtain ⟨w4,hw4⟩:∃ w4,w4=w3.setCell ⟨gx,8,none⟩ (.slice A1 (l++T).length c1):=⟨_,rfl⟩
 rw[← hw4] at hobj2 hbw4 hR2 ⊢
 clear hK K;refine done_ (by kernel_rfl) ?_
 clear hw4 hHeld hq hf hrun hR1 hA1 hb3 hCt hRl hch2 hb2'
 obtain ⟨L,hL⟩:∃ L,L=l++T:=⟨_,rfl⟩
 rw[← hL] at hobj2 hR2 hc1
 have hat4:HashAt w4 gx S A1 c1 L n true:=⟨hxs'.out,hobj2,hR2,hc1⟩
 have hat4':=Lib.hid hat4
 have hbw4':=Lib.hid hbw4
 have hL':=Lib.hid hL
 obtain ⟨F,hF⟩:∃ F,F=absorb (L.length / 64) S L:=⟨_,rfl⟩
 have hF':=Lib.hid hF
 clear hobj2 hR2 hc1 hC1 hat4 hbw4
 rw[← hL]
 clear hL
 go_wp2_with (first | (go_at_call 97;refine (blocks_any _ gx S A1 c1 L n true hat4'.out).mono ?_;rw[← hF];clear hF;rintro e w7 ⟨rfl,A5,c5,hat5,hchg5⟩;have hF8:=Lib.hid hat5.st8;have hoz5:=Lib.hid hat5.obj;have hbz5:=Lib.hid (hbw4'.out.trans (hchg5.below (B:=w.heap.size) hgx'.out hbw4'.out.size));clear hat5 hchg5) | (with_reducible refine wpList_load_mid rfl 138 _ rfl gx 0 rfl (F.map (Value.int .u32)) _ (hrange hF8.out hoz5.out) Try.underlying138 rfl (by rw[List.length_map,hF8.out,size8]) ?_))
 have hF8n:F.length=8:=hF8.out
 have hidx:∀ (k:Nat),k<8→∀ W:World,(Instr.index 138 (.agg (F.map (Value.int .u32)).toArray) (.int .i64 (k:Int))).run Try.prog W=.ok (.int .u32 (F.getD k 0)) W:=fun k hk W=>
  run_index_ints (P:=Try.prog) 138 87 8 .u32 F k Try.underlying138 sizeU32 _ Try.underlying87 rfl hF8n hk W
 have hidx':=Lib.hid hidx
 have hF8n':=Lib.hid hF8n
 clear hidx hF8n
 go_loopw [4,67] (fun v i wr=>∃ k:Nat,k≤8∧i=.int .i64 k∧Kd.R (Kd.int .u8) 5 wr w.heap.size (fun _=>True) v (outL (F.take k))∧Below w.heap.size w wr) (fun _ i _=>8 - (intOf i).toNat)
 case atStart=>exact ⟨0,by omega,rfl,Kd.R_nil _ _ _ _ _,hbz5.out⟩
 case round=>
  obtain ⟨k,hk,rfl,hR,hb⟩:=hrel
  have hR':=Lib.hid hR
  have hb':=Lib.hid hb
  obtain ⟨Av,cv,ev⟩:=Kd.R_slice hR
  subst ev
  clear hR hb
  by_cases hlt:k<8
  ·have hix:=hidx'.out k hlt
   have hout:outL (F.take (k+1))=outL (F.take k)++big4 (IntKind.u64.wrap (F.getD k 0)):=outL_take F k (by rw[hF8n'.out];exact hlt)
   obtain ⟨X,hX⟩:∃ X,X=outL (F.take k):=⟨_,rfl⟩
   have hXl:X.length≤1000:=by rw[hX];exact outL_le _ 0 (by rw[List.length_take];omega)
   rw[← hX] at hR' hout
   rw[← hX]
   obtain ⟨x,hx⟩:∃ x,x=F.getD k 0:=⟨_,rfl⟩
   rw[← hx] at hix hout
   have hout':=Lib.hid hout
   have hXl':=Lib.hid hXl
   clear hout hX hx hXl
   go_wp2_with (first | (go_at_call 40;refine (octet_Big.calls 5 _ 4 _ _ (big4_eq 0 _)).mono ?_;rintro e w6 ⟨v6,rfl,ho6,hb6⟩;have hR6:=Lib.hid (Kd.R_below hR'.out hb6);have hbw6:=Lib.hid (below_step hb'.out hb6);obtain ⟨A6,c6,rfl⟩:=Kd.R_slice ho6;have hC6:=Lib.hid (Kd.R_reads' ho6).2.2;clear ho6 hb6) | (at_builtin;refine Kd.R_append_rows (Kd.int .u8) (w0:=w) w.heap.size rfl (.tmp 70) (.tmp 73) 23 5 (.int .u8 0) 1 rfl Try.underlying23 info5 rfl (by decide) (by omega) (.slice Av X.length cv) X (big4 _) _ _ _ (fun _=>True) (fun _=>False) rfl rfl hR6.out hC6.out (fun _ _ h=>h) (fun _ h=>h.elim) (fun _ _=>trivial) hbw6.out hbw6.out.size (by have:=hXl'.out;simp only[big4,List.length_cons,List.length_nil];omega) ?_;intro v7 w7 hR7 hb7 hg7 hat7;have hR7':=Lib.hid hR7;have hb7':=Lib.hid hb7;clear hR7 hb7 hg7 hat7))
   go_roundw
   case rel=>exact ⟨k+1,by omega,by go_num,by rw[hout'.out];exact hR7'.out,hb7'.out⟩
   case measure=>simp[intOf];omega
  obtain rfl:k=8:=by omega
  rw[List.take_of_length_le (by rw[hF8n'.out];omega)] at hR'
  rw[List.take_of_length_le (by rw[hF8n'.out];omega)]
  obtain ⟨X,hX⟩:∃ X,X=outL F:=⟨_,rfl⟩
  rw[← hX] at hR'
  rw[← hX]
  have hX':=Lib.hid hX
  clear hX hlt
  go_wp2
  go_ret
  exact ⟨_,rfl,by rw[← hT'.out,← hL'.out,← hF'.out,← hX'.out];exact hR'.out,hb'.out⟩
end Go.Proofs.Ytbajioiiaamokaa.Own
