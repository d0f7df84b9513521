/- CpC, pruned (slim.py). -/
import Derived.Test.YtbajioiiaamokaaZB44
namespace Go.Proofs.Ytbajioiiaamokaa.Own
open Go.RowKit Go.Proofs.Ytbajioiiaamokaa.Arr Go.Proofs.Ytbajioiiaamokaa.QB Go.Proofs.YtbajioiiaamokaaW.PrintWords Go.Proofs.YtbajioiiaamokaaW.PrintLast Go.Proofs.YtbajioiiaamokaaW.PrintMore
set_option linter.unusedVariables false
set_option linter.unusedSimpArgs false
attribute [-go_sem] Instr.build
def lgL (r:RcT) (k:Nat):Nat:=r.salt.length+r.check.length+((List.range k).map (fun j=>(r.s j).wrap.length)).sum
theorem lgL_succ (r:RcT) (k:Nat):lgL r (k+1)=lgL r k+(r.s k).wrap.length:=by
 unfold lgL
 rw[List.range_succ,List.map_append,List.sum_append]
 simp[Nat.add_assoc]
def light18 (r:RcT):Bool:=decide (lgL r 4≤2000)
set_option maxHeartbeats 8000000 in
set_option maxRecDepth 100000 in
theorem light18_any (r:RcT) (A:Nat→Option Addr) (c:Nat→Nat) (w:World) (hlen:∀ j,j<6→(rlist r j).length≤140737488355328) :
  Calls Try.prog 9 #[.agg (rcl r A c).toArray] w fun e w'=>e=.returned (.bool (light18 r))∧Below w.heap.size w w':=by
 obtain ⟨CA,hCA⟩:∃ CA,CA=(rcl r A c).toArray:=⟨_,rfl⟩
 obtain ⟨W1,hW1⟩:∃ W1,W1=w.alloc (.cells CA 28 (0,0)):=⟨_,rfl⟩
 have ha:=Lib.hid (show W1.heap[w.heap.size]?=some (.cells (rcl r A c).toArray 28 (0,0)) by rw[hW1,← hCA];exact heap_alloc_last _ _)
 have b1:=Lib.hid (show Below w.heap.size w W1 by rw[hW1];exact (Below.refl _ _).alloc (Nat.le_refl _) _)
 have hsl:=Lib.hid (fun (W:World) (k:Nat) (hk:k<4) (h:W.heap[w.heap.size]?=some (.cells (rcl r A c).toArray 28 (0,0)))=>show W.cell? ⟨w.heap.size,5+k*5+4,none⟩=some (.slice (A (k+2)) (r.s k).wrap.length (c (k+2))) from rc_slot h k hk 4 _ rfl)
 obtain ⟨p0,p1,p2,p3,p4⟩:=rc_head ha.out
 have hwl:=Lib.hid (fun k (hk:k<4)=>show (r.s k).wrap.length≤140737488355328 from hlen (k+2) (by omega))
 have hs0:r.salt.length≤140737488355328:=hlen 0 (by omega)
 have hs1:r.check.length≤140737488355328:=hlen 1 (by omega)
 have h0:lgL r 0=r.salt.length+r.check.length:=by simp[lgL]
 obtain ⟨n1,hn1⟩:∃ n,n=r.salt.length:=⟨_,rfl⟩
 obtain ⟨n2,hn2⟩:∃ n,n=r.check.length:=⟨_,rfl⟩
 rw[← hn1] at p2 hs0
 rw[← hn2] at p4 hs1
 rw[← hn1,← hn2] at h0
 rw[← hCA]
 have h0':=Lib.hid h0
 have sw:IntKind.i64.wrap ((n1:Int)+(n2:Int))=(n1:Int)+(n2:Int):=by rw[IntKind.wrap_i64];omega
 have hs01:=Lib.hid (show n1+n2≤281474976710656 by omega)
 clear hlen hCA hn1 hn2 hs0 hs1 h0
 go_enter Try.func9,Try.ntmps9
 go_upto_region 1 with fail
 rw[← hW1]
 clear hW1
 go_wp2_with fail
 clear p0 p1 p2 p3 p4
 go_loopw [3,4] (fun n v wr=>∃ k:Nat,k≤4∧v=.int .i64 k∧n=.int .i64 ((lgL r k:Nat):Int)∧lgL r k≤281474976710656+140737488355328*k∧wr.heap[w.heap.size]?=some (.cells (rcl r A c).toArray 28 (0,0))∧Below w.heap.size w wr) (fun _ v _=>4 - (intOf v).toNat)
 case atStart=>exact ⟨0,by omega,rfl,by rw[h0'.out];push_cast;rfl,by rw[h0'.out];have:=hs01.out;omega,ha.out,b1.out⟩
 case round=>
  obtain ⟨k,hk,rfl,rfl,hle,hg,hb⟩:=hrel
  have hg':=Lib.hid hg
  have hb':=Lib.hid hb
  clear hg hb ha b1 sw h0' hs01
  obtain ⟨T,hT⟩:∃ T,T=lgL r k:=⟨_,rfl⟩
  rw[← hT] at hle ⊢
  by_cases hlt:k<4
  ·have q1:(k:Int)<4:=by omega
   have q2:(0:Int)≤(k:Int):=by omega
   have kw:IntKind.i64.wrap ((k:Int)+1)=(k:Int)+1:=by rw[IntKind.wrap_i64];omega
   have hk1:=Lib.hid hlt
   have q:=hsl.out _ k hlt hg'.out
   have hw0:=hwl.out k hlt
   obtain ⟨n,hn⟩:∃ n,n=(r.s k).wrap.length:=⟨_,rfl⟩
   rw[← hn] at q hw0
   have hsucc:=Lib.hid (show lgL r (k+1)=T+n by rw[lgL_succ,hT,hn])
   have sw:IntKind.i64.wrap ((T:Int)+(n:Int))=(T:Int)+(n:Int):=by rw[IntKind.wrap_i64];omega
   have hbd:=Lib.hid (show T+n≤281474976710656+140737488355328*(k+1) by omega)
   clear hlt hk hT hn hle hw0
   go_wp2_with fail
   exact ⟨⟨k+1,hk1.out,by push_cast;rfl,by rw[hsucc.out];push_cast;rfl,by rw[hsucc.out];exact hbd.out,hg'.out,hb'.out⟩,by have:=hk1.out;simp only[intOf];omega⟩
  obtain rfl:k=4:=by omega
  have hfin:=Lib.hid (show light18 r=decide ((T:Int)≤2000) by unfold light18;rw[← hT];exact decide_eq_decide.mpr (by omega))
  clear hT hlt hk hle
  go_wp2_with fail
  go_ret
  exact ⟨by rw[hfin.out];rfl,hb'.out⟩
theorem refFill8 (k:Nat):nepentheref01_Fill.f (k+200) 0 8=some (zL 8):=by
 have:=fill_eq 0 8 (by decide) (k+191)
 exact this
theorem byt_zL' (n:Nat):∀ x ∈ zL n,byt x:=fun x hx=>by
 obtain rfl:=List.eq_of_mem_replicate hx
 exact ⟨by decide,by decide⟩
theorem byt_slBytes' {x:SlT} (h:∀ y ∈ x.wrap,byt y):∀ y ∈ slBytes x,byt y:=by
 intro y hy
 unfold slBytes at hy
 split at hy
 ·simp only[List.mem_append] at hy
  rcases hy with (((hy | hy) | hy) | hy) | hy
  ·simp only[List.mem_cons,List.not_mem_nil,or_false] at hy
   rcases hy with rfl | rfl | rfl | rfl <;> exact ⟨by decide,by decide⟩
  ·exact bigL_byt _ _ _ hy
  ·exact bigL_byt _ _ _ hy
  ·exact bigL_byt _ _ _ hy
  exact h _ hy
 exact byt_zL' _ _ hy
theorem byt_recBody {r:RcT} (hs:∀ x ∈ r.salt,byt x) (hc:∀ x ∈ r.check,byt x) (hw:∀ k,k<4→∀ x ∈ (r.s k).wrap,byt x):∀ x ∈ recBody r 4,byt x:=by
 intro x hx
 rw[recBody,headB,slotsL] at hx
 simp only[List.mem_append,List.mem_flatMap,List.mem_range] at hx
 rcases hx with (((((hx | hx) | hx) | hx) | hx) | hx) | ⟨k,hk,hx⟩
 ·exact bigL_byt _ _ _ hx
 ·exact bigL_byt _ _ _ hx
 ·exact hs _ hx
 ·exact bigL_byt _ _ _ hx
 ·exact byt_zL' _ _ hx
 ·exact hc _ hx
 exact byt_slBytes' (hw k hk) _ hx
set_option maxHeartbeats 8000000 in
set_option maxRecDepth 100000 in
theorem refBytes18_any (r:RcT) (A:Nat→Option Addr) (c:Nat→Nat) (K:Option Addr) (kc:Nat) (key:List Int) (w:World) (hV:RcV w r A c) (hf:recFit r) (hK:Kd.C (Kd.int .u8) w K key.length key) (hok:rcRight r=true) (hkl:key.length=32) (hkc:key.length≤kc) (hkb:∀ x ∈ key,byt x) (hbs:∀ x ∈ r.salt,byt x) (hbc:∀ x ∈ r.check,byt x) (hbw:∀ k,k<4→∀ x ∈ (r.s k).wrap,byt x) :
  Calls Try.prog 21 #[.agg (rcl r A c).toArray,.slice K key.length kc] w fun e w'=>∃ X cX,e=.returned (.slice X (recBytes r key).length cX)∧w'.ownsRow w.heap.size 5 1 (.slice X (recBytes r key).length cX) (recBytes r key).length (nums .u8 (recBytes r key))∧Below w.heap.size w w':=by
 obtain ⟨CA,hCA⟩:∃ CA,CA=(rcl r A c).toArray:=⟨_,rfl⟩
 obtain ⟨W1,hW1⟩:∃ W1,W1=w.alloc (.cells CA 39 (0,0)):=⟨_,rfl⟩
 have ha:=Lib.hid (show W1.heap[w.heap.size]?=some (.cells CA 39 (0,0)) by rw[hW1];exact heap_alloc_last _ _)
 have b1:=Lib.hid (show Below w.heap.size w W1 by rw[hW1];exact (Below.refl _ _).alloc (Nat.le_refl _) _)
 have hCA':=Lib.hid hCA
 obtain ⟨hsr,hsl,hcl⟩:=rcRight_parts hok
 obtain ⟨⟨f0,f1⟩,⟨f2,f3⟩,⟨f4,f5⟩,f6⟩:=hf
 have hhl:=Lib.hid (headB_len hok)
 have hbl:=Lib.hid (fun n hn=>recBody_len hok n hn)
 have hrl:=Lib.hid (recBytes_len hok key)
 rw[← hCA]
 have hg0:=Lib.hid (fun W:World=>nepentheref01_Big.calls 20 r.gen 8 (bigL 8 r.gen) W (by rw[← big8_bigL _ f0 f1];exact refBig8 _ f0 f1 0))
 have hg1:=Lib.hid (fun W:World=>nepentheref01_Big.calls 20 r.epoch 8 (bigL 8 r.epoch) W (by rw[← big8_bigL _ f2 f3];exact refBig8 _ f2 f3 0))
 have hg2:=Lib.hid (fun W:World=>nepentheref01_Big.calls 20 r.bad 8 (bigL 8 r.bad) W (by rw[← big8_bigL _ f4 f5];exact refBig8 _ f4 f5 0))
 have hfl:=Lib.hid (fun W:World=>nepentheref01_Fill.calls 200 0 8 (zL 8) W (refFill8 0))
 have hst:=Lib.hid (fun (W:World) (hW:Below w.heap.size w W)=>show Src Try.prog 1 23 (.slice (A 0) r.salt.length (c 0)) r.salt.length (r.salt.map (Value.int .u8)) W from src_of_C (Kd.C_below (hV 0 (by omega)).1 hW))
 have hck:=Lib.hid (fun (W:World) (hW:Below w.heap.size w W)=>show Src Try.prog 1 23 (.slice (A 1) r.check.length (c 1)) r.check.length (r.check.map (Value.int .u8)) W from src_of_C (Kd.C_below (hV 1 (by omega)).1 hW))
 have hsb:=Lib.hid (fun (W:World) (k:Nat) (hk:k<4) (hW:Below w.heap.size w W)=>nepentheref17_Bytes.calls 200 (r.s k).used (r.s k).size (r.s k).epoch (r.s k).count (A (k+2)) (c (k+2)) (r.s k).wrap (slBytes (r.s k)) W (Kd.C_below (hV (k+2) (by omega)).1 hW) (hV (k+2) (by omega)).2 (slBytes_eq _ (f6 k hk) 0))
 have hbb:=byt_recBody hbs hbc hbw
 have htg:=Lib.hid (fun (W:World) (hW:Below w.heap.size w W) (X:Option Addr) (cX:Nat) (D:List Int) (hDe:D=recBody r 4) (hD:Kd.C (Kd.int .u8) W X D.length D) (hc:D.length≤cX) (hl:D.length≤1000000000)=>by
  have:=refTag_any key D hkb (by rw[hDe];exact hbb) (by omega) hl W K kc X cX (Kd.C_below hK hW) hkc hD hc
  rw[hkl] at this
  exact this)
 have hrs:=Lib.hid (fun (W:World) (k:Nat) (hk:k<4) (h:W.heap[w.heap.size]?=some (.cells CA 39 (0,0)))=>show W.rangeAt w.heap.size (5+k*5) (slcl (r.s k) (A (k+2)) (c (k+2))) from by rw[hCA] at h;exact rc_slot h k hk)
 have hcel:=Lib.hid (fun (W:World) (h:W.heap[w.heap.size]?=some (.cells CA 39 (0,0)))=>rc_head (r:=r) (A:=A) (c:=c) (by rw[hCA] at h;exact h))
 have hpl:=Lib.hid (fun k hk=>slBytes_len (r.s k) (hsr k hk))
 obtain ⟨LS,hLS⟩:∃ LS,LS=r.salt:=⟨_,rfl⟩
 obtain ⟨LC,hLC⟩:∃ LS,LS=r.check:=⟨_,rfl⟩
 obtain ⟨B0,hB0⟩:∃ B,B=bigL 8 r.gen:=⟨_,rfl⟩
 obtain ⟨B1,hB1⟩:∃ B,B=bigL 8 r.epoch:=⟨_,rfl⟩
 obtain ⟨B2,hB2⟩:∃ B,B=bigL 8 r.bad:=⟨_,rfl⟩
 obtain ⟨B3,hB3⟩:∃ B,B=zL 8:=⟨_,rfl⟩
 have l0:=Lib.hid (show B0.length=8 by rw[hB0,bigL_length])
 have l1:=Lib.hid (show B1.length=8 by rw[hB1,bigL_length])
 have l2:=Lib.hid (show B2.length=8 by rw[hB2,bigL_length])
 have l3:=Lib.hid (show B3.length=8 by rw[hB3,zL_len])
 have l4:=Lib.hid (show LS.length=16 by rw[hLS,hsl])
 have l5:=Lib.hid (show LC.length=32 by rw[hLC,hcl])
 have hhd:=Lib.hid (show headB r=B0++B1++LS++B2++B3++LC by rw[hB0,hB1,hB2,hB3,hLS,hLC];rfl)
 rw[← hLS,← hLC] at hcel
 rw[← hLS] at hst
 rw[← hLC] at hck
 rw[← hB0] at hg0
 rw[← hB1] at hg1
 rw[← hB2] at hg2
 rw[← hB3] at hfl
 obtain ⟨V0,hV0⟩:∃ V,V=r.gen:=⟨_,rfl⟩
 obtain ⟨V1,hV1⟩:∃ V,V=r.epoch:=⟨_,rfl⟩
 obtain ⟨V2,hV2⟩:∃ V,V=r.bad:=⟨_,rfl⟩
 rw[← hV0] at hg0
 rw[← hV1] at hg1
 rw[← hV2] at hg2
 rw[← hV0,← hV1,← hV2] at hcel
 rw[hkl]
 have b2:=b1
 have g2:=ha
 clear hV hK hCA hkl hsr hsl hcl f0 f1 f2 f3 f4 f5 f6 hLS hLC hB0 hB1 hB2 hB3 hV0 hV1 hV2 hok hkc hkb hbs hbc hbw hbb
 go_enter Try.func21,Try.ntmps21
 go_upto_region 1 with fail
 rw[← hW1]
 clear hW1
 refine start_ (n:=8) (S:=fun w'=>Below w.heap.size w w'∧w'.heap[w.heap.size]?=some (.cells CA 39 (0,0))) (ds:=[]) #[false,false,false,false,false,false,false,false] (by kernel_rfl) rfl rfl (by exact ⟨below_drew b2.out,g2.out⟩) (fun hHeld=>?_)
 refine pure_ (i:=0) (N:=some 7) (v:=?_) (a':=?_) #[true,false,false,false,false,false,false,false] rfl rfl (by kernel_rfl) (fun _ _ _ h=>h) (Or.inl ⟨by rfl,?_⟩) ?_ ?_
 rotate_left
 ·intro w';go_simp;with_reducible rfl
 rotate_left
 ·simp only[Act.put,sZ0,sZ1,sZ2,i64_w,i32_w];rfl
 refine take_ (i:=1) (N:=some 8) (v:=?_) (a':=?_) #[true,true,false,false,false,false,false,false] rfl rfl (by kernel_rfl) (fun _ _ _ h=>h) (Or.inl ⟨by rfl,?_⟩) hHeld ?_ ?_
 rotate_left
 ·intro w' hS
  have hq:=(hcel.out w' hS.2).1
  go_simp;with_reducible rfl
 rotate_left
 ·simp only[Act.put,sZ0,sZ1,sZ2,i64_w,i32_w];rfl
 refine pure_ (i:=3) (N:=some 10) (v:=?_) (a':=?_) #[true,true,false,true,false,false,false,false] rfl rfl (by kernel_rfl) (fun _ _ _ h=>h) (Or.inl ⟨by rfl,?_⟩) ?_ ?_
 rotate_left
 ·intro w';go_simp;with_reducible rfl
 rotate_left
 ·simp only[Act.put,sZ0,sZ1,sZ2,i64_w,i32_w];rfl
 refine take_ (i:=4) (N:=some 11) (v:=?_) (a':=?_) #[true,true,false,true,true,false,false,false] rfl rfl (by kernel_rfl) (fun _ _ _ h=>h) (Or.inl ⟨by rfl,?_⟩) hHeld ?_ ?_
 rotate_left
 ·intro w' hS
  have hq:=(hcel.out w' hS.2).2.1
  go_simp;with_reducible rfl
 rotate_left
 ·simp only[Act.put,sZ0,sZ1,sZ2,i64_w,i32_w];rfl
 refine one_ (i:=2) (N:=some 9) #[true,true,true,true,true,false,false,false] rfl rfl (by kernel_rfl) (by decide) (fun K hK=>?_)
 refine goes_ Try.func51 (by kernel_rfl) rfl #[.int .u64 V0,.int .i64 8] (by rfl) rfl rfl (by (try simp only[List.map_toArray,List.map_cons,List.map_nil]);first | done | rfl) ?_
 refine (hg0.out _).mono ?_
 rintro e w3 ⟨v1,rfl,hR,hb⟩
 obtain ⟨A3,c3,rfl⟩:=Kd.R_slice hR
 refine ⟨_,rfl,?_⟩
 have o3:=Lib.hid (own_less (nums_of_R hR) hHeld.1.size)
 refine hK.out _ _ ⟨below_step hHeld.1 hb,heap_below hHeld.2 hb⟩ (fun hHeld=>?_)
 clear hb hR
 clear hK K;refine norm_ (a':=?_) ?_ ?_
 rotate_left
 ·show Act.put _ (some 9) _=_
  simp only[Act.put,sZ0,sZ1,sZ2,i64_w,i32_w];rfl
 refine one_ (i:=5) (N:=some 12) #[true,true,true,true,true,true,false,false] rfl rfl (by kernel_rfl) (by decide) (fun K hK=>?_)
 refine goes_ Try.func51 (by kernel_rfl) rfl #[.int .u64 V1,.int .i64 8] (by rfl) rfl rfl (by (try simp only[List.map_toArray,List.map_cons,List.map_nil]);first | done | rfl) ?_
 refine (hg1.out _).mono ?_
 rintro e w4 ⟨v1,rfl,hR,hb⟩
 obtain ⟨A4,c4,rfl⟩:=Kd.R_slice hR
 obtain ⟨-,hc4,hC4⟩:=Kd.R_reads' hR
 refine ⟨_,rfl,?_⟩
 have sr4:=Lib.hid (src_of_C (c:=c4) hC4)
 have o4:=Lib.hid (own_move o3.out (fun k hk=>hb.block k (o3.out.lt k hk).2))
 refine hK.out _ _ ⟨below_step hHeld.1 hb,heap_below hHeld.2 hb⟩ (fun hHeld=>?_)
 clear hb hR hC4 hc4 o3
 clear hK K;refine norm_ (a':=?_) ?_ ?_
 rotate_left
 ·show Act.put _ (some 12) _=_
  simp only[Act.put,sZ0,sZ1,sZ2,i64_w,i32_w];rfl
 refine one_ (i:=6) (N:=some 13) #[true,true,true,true,true,true,true,false] rfl rfl (by kernel_rfl) (by decide) (fun K hK=>?_)
 refine step_append w.heap.size (.tmp 9) (.tmp 12) 23 (.slice A3 B0.length c3) B0 (.slice A4 B1.length c4) B1 (by rfl) rfl (by rfl) (by rfl) (by rfl) sr4.out o4.out hHeld.1.size (by have:=l0.out;have:=l1.out;omega) ?_
 intro A5 c5 w5 h1 hgr hbg
 refine hK.out _ _ ⟨hbg _ _ (Nat.le_refl _) hHeld.1,blk_grown hHeld.2 hgr (fun e=>own_ne o4.out hHeld.2 (by decide) _ e.symm rfl)⟩ (fun hHeld=>?_)
 have o5:=Lib.hid h1
 have hH5:=Lib.hid hHeld
 clear h1 hgr hbg o4 sr4 hHeld
 clear hK K;refine norm_ (a':=?_) ?_ ?_
 rotate_left
 ·show Act.put _ (some 13) _=_
  simp only[Act.put,sZ0,sZ1,sZ2,i64_w,i32_w];rfl
 refine pure_ (i:=7) (N:=some 5) (v:=?_) (a':=?_) #[true,true,true,true,true,true,true,true] rfl rfl (by kernel_rfl) (fun _ _ _ h=>h) (Or.inl ⟨by rfl,?_⟩) ?_ ?_
 rotate_left
 ·intro w';go_simp;with_reducible rfl
 rotate_left
 ·simp only[Act.put,sZ0,sZ1,sZ2,i64_w,i32_w];rfl
 refine done_ (by kernel_rfl) ?_
 obtain ⟨D1,hD1⟩:∃ D,D=B0++B1:=⟨_,rfl⟩
 rw[← hD1] at o5 ⊢
 have d1:=Lib.hid (show D1.length=16 by rw[hD1,List.length_append,l0.out,l1.out])
 rw[show B0.length+B1.length=D1.length by rw[hD1,List.length_append]]
 obtain ⟨D2,hD2⟩:∃ D,D=D1++LS:=⟨_,rfl⟩
 obtain ⟨D3,hD3⟩:∃ D,D=D2++B2:=⟨_,rfl⟩
 obtain ⟨D4,hD4⟩:∃ D,D=D3++B3:=⟨_,rfl⟩
 obtain ⟨D5,hD5⟩:∃ D,D=D4++LC:=⟨_,rfl⟩
 have d2:=Lib.hid (show D2.length=32 by rw[hD2,List.length_append,d1.out,l4.out])
 have d3:=Lib.hid (show D3.length=40 by rw[hD3,List.length_append,d2.out,l2.out])
 have d4:=Lib.hid (show D4.length=48 by rw[hD4,List.length_append,d3.out,l3.out])
 have hh5:=Lib.hid (show D5=headB r by rw[hhd.out,hD5,hD4,hD3,hD2,hD1])
 have hD2':=Lib.hid hD2
 have hD3':=Lib.hid hD3
 have hD4':=Lib.hid hD4
 have hD5':=Lib.hid hD5
 have b5:=Lib.hid hH5.out.1
 have g5:=Lib.hid hH5.out.2
 obtain ⟨-,-,q5,-,-⟩:=hcel.out _ g5.out
 clear hD1 hD2 hD3 hD4 hD5 hH5 ha b1 b2 g2 hg0 hg1 hHeld
 go_wp2_with (first
  |(refine wpList_own_append rfl (.tmp 14) (.tmp 16) 23 rfl w.heap.size (.slice A5 D1.length c5) D1 (.slice (A 0) LS.length (c 0)) LS rfl rfl (hst.out _ b5.out) o5.out b5.out.size (by have:=d1.out;have:=l4.out;omega) ?_;intro v6 w6 h1 h2;obtain ⟨A6,c6,rfl⟩:=own_slice h1;have b6:=Lib.hid (b5.out.grown h2 b5.out.size (fun j hj=>(o5.out.lt j hj).1));have g6:=Lib.hid (blk_grown g5.out h2 (fun e=>own_ne o5.out g5.out (by decide) _ e.symm rfl));have o6:=Lib.hid h1;rw[← hD2'.out] at o6 ⊢;obtain ⟨-,-,-,q6,-⟩:=hcel.out _ g6.out;clear h1 h2)
  |((with_reducible go_at_call 51);(with_reducible refine (hg2.out _).mono ?_);rintro e w7 ⟨v1,rfl,hR,hb⟩;obtain ⟨A7,c7,rfl⟩:=Kd.R_slice hR;obtain ⟨-,hc7,hC7⟩:=Kd.R_reads' hR;have b7:=Lib.hid (below_step b6.out hb);have sr7:=Lib.hid (src_of_C (c:=c7) hC7);have o7:=Lib.hid (own_move o6.out (fun k hk=>hb.block k (o6.out.lt k hk).2));have g7:=Lib.hid (heap_below g6.out hb);clear hb hR hC7 hc7)
  |(refine wpList_own_append rfl (.tmp 18) (.tmp 21) 23 rfl w.heap.size (.slice A6 D2.length c6) D2 (.slice A7 B2.length c7) B2 rfl rfl sr7.out o7.out b7.out.size (by have:=d2.out;have:=l2.out;omega) ?_;intro v8 w8 h1 h2;obtain ⟨A8,c8,rfl⟩:=own_slice h1;have b8:=Lib.hid (b7.out.grown h2 b7.out.size (fun j hj=>(o7.out.lt j hj).1));have g8:=Lib.hid (blk_grown g7.out h2 (fun e=>own_ne o7.out g7.out (by decide) _ e.symm rfl));have o8:=Lib.hid h1;rw[← hD3'.out] at o8 ⊢;clear h1 h2)
  |((with_reducible go_at_call 52);(with_reducible refine (hfl.out _).mono ?_);rintro e w9 ⟨v1,rfl,hR,hb⟩;obtain ⟨A9,c9,rfl⟩:=Kd.R_slice hR;obtain ⟨-,hc9,hC9⟩:=Kd.R_reads' hR;have b9:=Lib.hid (below_step b8.out hb);have sr9:=Lib.hid (src_of_C (c:=c9) hC9);have o9:=Lib.hid (own_move o8.out (fun k hk=>hb.block k (o8.out.lt k hk).2));have g9:=Lib.hid (heap_below g8.out hb);clear hb hR hC9 hc9)
  |(refine wpList_own_append rfl (.tmp 23) (.tmp 24) 23 rfl w.heap.size (.slice A8 D3.length c8) D3 (.slice A9 B3.length c9) B3 rfl rfl sr9.out o9.out b9.out.size (by have:=d3.out;have:=l3.out;omega) ?_;intro v10 w10 h1 h2;obtain ⟨A10,c10,rfl⟩:=own_slice h1;have b10:=Lib.hid (b9.out.grown h2 b9.out.size (fun j hj=>(o9.out.lt j hj).1));have g10:=Lib.hid (blk_grown g9.out h2 (fun e=>own_ne o9.out g9.out (by decide) _ e.symm rfl));have o10:=Lib.hid h1;rw[← hD4'.out] at o10 ⊢;obtain ⟨-,-,-,-,q10⟩:=hcel.out _ g10.out;clear h1 h2)
  |(refine wpList_own_append rfl (.tmp 26) (.tmp 28) 23 rfl w.heap.size (.slice A10 D4.length c10) D4 (.slice (A 1) LC.length (c 1)) LC rfl rfl (hck.out _ b10.out) o10.out b10.out.size (by have:=d4.out;have:=l5.out;omega) ?_;intro v11 w11 h1 h2;obtain ⟨A11,c11,rfl⟩:=own_slice h1;have b11:=Lib.hid (b10.out.grown h2 b10.out.size (fun j hj=>(o10.out.lt j hj).1));have g11:=Lib.hid (blk_grown g10.out h2 (fun e=>own_ne o10.out g10.out (by decide) _ e.symm rfl));have o11:=Lib.hid h1;rw[← hD5'.out] at o11 ⊢;clear h1 h2))
 have o11':=Lib.hid (show w11.ownsRow w.heap.size 5 1 (.slice A11 D5.length c11) (recBody r 0).length (nums .u8 (recBody r 0)) by
  have e:recBody r 0=D5:=by rw[hh5.out];exact List.append_nil _
  rw[e];exact o11.out)
 clear hcel hst hck hg2 hfl q5 b5 g5 o5 b6 g6 o6 q6 b7 sr7 o7 g7 b8 g8 o8 b9 sr9 o9 g9 b10 g10 o10 q10 o11 l0 l1 l2 l3 l4 l5 d1 d2 d3 d4 hhd hD2' hD3' hD4' hD5'
 go_loopw [5,6] (fun v i wr=>∃ k:Nat,k≤4∧i=.int .i64 k∧wr.ownsRow w.heap.size 5 1 v (recBody r k).length (nums .u8 (recBody r k))∧wr.heap[w.heap.size]?=some (.cells CA 39 (0,0))∧Below w.heap.size w wr) (fun _ i _=>4 - (intOf i).toNat)
 case atStart=>exact ⟨0,by omega,rfl,o11'.out,g11.out,b11.out⟩
 case round=>
  obtain ⟨k,hk,rfl,hown,hg,hb⟩:=hrel
  obtain ⟨Av,cv,rfl⟩:=own_slice hown
  have hown':=Lib.hid hown
  have hg':=Lib.hid hg
  have hb':=Lib.hid hb
  have hDl:=Lib.hid (hbl.out k hk)
  clear hown hg hb o11' g11 b11 hh5
  by_cases hlt:k<4
  ·have q1:(k:Int)<4:=by omega
   have q2:(0:Int)≤(k:Int):=by omega
   have kw:IntKind.i64.wrap ((k:Int)+1)=(k:Int)+1:=by rw[IntKind.wrap_i64];omega
   have hk1:=Lib.hid hlt
   have hr1:=Lib.hid (fun W hW=>hsb.out W k hk1.out hW)
   have hrg:=Lib.hid (hrs.out wr k hlt hg'.out)
   obtain ⟨P,hP⟩:∃ P,P=slBytes (r.s k):=⟨_,rfl⟩
   rw[← hP] at hr1
   have hPl:=Lib.hid (show P.length=128 by rw[hP];exact hpl.out k hlt)
   obtain ⟨D,hD⟩:∃ D,D=recBody r k:=⟨_,rfl⟩
   have hsucc:=Lib.hid (show D++P=recBody r (k+1) by rw[hD,hP];unfold recBody;rw[slotsL_succ,List.append_assoc])
   rw[← hD] at hown' hDl ⊢
   obtain ⟨X,hX⟩:∃ X,X=slcl (r.s k) (A (k+2)) (c (k+2)):=⟨_,rfl⟩
   have hr2:=Lib.hid (fun (W:World) (hW:Below w.heap.size w W)=>show Calls Try.prog 53 #[.agg X.toArray] W (fun e w'=>∃ v,e=.returned v∧Kd.R (Kd.int .u8) 5 w' W.heap.size (fun _=>True) v P∧Below W.heap.size W w') from by rw[hX];exact hr1.out W hW)
   rw[← hX] at hrg
   have hszX:=Lib.hid (show (Try.prog.info? 36).map (·.size)=some X.length by rw[hX];exact szSr)
   clear hX hlt hk hP hD hr1
   go_wp2_with (first
    |((with_reducible go_at_call 53);refine (hr2.out _ hb'.out).mono ?_;rintro e w4 ⟨v1,rfl,hR,hbb⟩;obtain ⟨X4,cX4,rfl⟩:=Kd.R_slice hR;obtain ⟨-,hc4,hC4⟩:=Kd.R_reads' hR;have b4:=Lib.hid (below_step hb'.out hbb);have g4:=Lib.hid (heap_below hg'.out hbb);have o4:=Lib.hid (own_move hown'.out (fun k hk=>hbb.block k (hown'.out.lt k hk).2));have sr4:=Lib.hid (src_of_C (c:=cX4) hC4);clear hbb hR hC4 hc4)
    |(with_reducible refine wpList_load_mid rfl 36 _ rfl w.heap.size (5+k*5) rfl X _ hrg.out Try.underlying36 rfl hszX.out ?_)
    |(refine wpList_own_append rfl (.tmp 34) (.tmp 39) 23 rfl w.heap.size (.slice Av D.length cv) D (.slice X4 P.length cX4) P rfl rfl sr4.out o4.out b4.out.size (by have:=hDl.out;have:=hPl.out;have:=hk1.out;omega) ?_;intro v7 w7 h1 h2;have b7:=Lib.hid (b4.out.grown h2 b4.out.size (fun j hj=>(o4.out.lt j hj).1));have g7:=Lib.hid (blk_grown g4.out h2 (fun e=>own_ne o4.out g4.out (by decide) _ e.symm rfl));have o7:=Lib.hid h1;clear h1 h2))
   rw[hsucc.out] at o7
   exact ⟨⟨k+1,hk1.out,by push_cast;rfl,o7.out,g7.out,b7.out⟩,by have:=hk1.out;simp only[intOf];omega⟩
  obtain rfl:k=4:=by omega
  have hrb:=Lib.hid (show recBytes r key=recBody r 4++tagB (blockL key) (recBody r 4) from rfl)
  have htl:=Lib.hid (tagB_length (blockL key) (recBody r 4))
  obtain ⟨e1,e2,e3⟩:=C_of_own hown'.out
  have htg1:=Lib.hid (htg.out wr hb'.out Av cv (recBody r 4) rfl e3 e2 (by have:=hDl.out;omega))
  obtain ⟨D,hD⟩:∃ D,D=recBody r 4:=⟨_,rfl⟩
  rw[← hD] at hown' hDl hrb htl htg1 ⊢
  obtain ⟨T,hT⟩:∃ T,T=tagB (blockL key) D:=⟨_,rfl⟩
  rw[← hT] at hrb htl htg1
  clear hlt hk e1 e2 e3 hD hT hsb hpl
  go_wp2_with (first
   |((with_reducible go_at_call 54);(with_reducible refine htg1.out.mono ?_);rintro e w4 ⟨v1,rfl,hR,hbb⟩;obtain ⟨A4,c4,rfl⟩:=Kd.R_slice hR;obtain ⟨-,hc4,hC4⟩:=Kd.R_reads' hR;have b4:=Lib.hid (below_step hb'.out hbb);have sr4:=Lib.hid (src_of_C (c:=c4) hC4);have o4:=Lib.hid (own_move hown'.out (fun k hk=>hbb.block k (hown'.out.lt k hk).2));clear hbb hR hC4 hc4)
   |(refine wpList_own_append rfl (.tmp 41) (.tmp 44) 23 rfl w.heap.size (.slice Av D.length cv) D (.slice A4 T.length c4) T rfl rfl sr4.out o4.out b4.out.size (by have:=hDl.out;have:=htl.out;omega) ?_;intro v7 w7 h1 h2;obtain ⟨A7,c7,rfl⟩:=own_slice h1;have b7:=Lib.hid (b4.out.grown h2 b4.out.size (fun j hj=>(o4.out.lt j hj).1));have o7:=Lib.hid h1;clear h1 h2;rw[← hrb.out] at o7 ⊢))
  go_ret
  exact ⟨A7,c7,rfl,o7.out,b7.out⟩
end Go.Proofs.Ytbajioiiaamokaa.Own
