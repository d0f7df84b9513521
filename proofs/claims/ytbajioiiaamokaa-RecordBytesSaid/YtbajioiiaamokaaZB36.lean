/- SbC, pruned (slim.py). -/
import Derived.Test.YtbajioiiaamokaaZB35
import Derived.Test.YtbajioiiaamokaaZB32
namespace Go.Proofs.Ytbajioiiaamokaa.Own
open Go.RowKit Go.Proofs.Ytbajioiiaamokaa.Arr Go.Proofs.Ytbajioiiaamokaa.QB Go.Proofs.YtbajioiiaamokaaW.PrintWords Go.Proofs.YtbajioiiaamokaaW.PrintLast Go.Proofs.YtbajioiiaamokaaW.PrintMore
set_option linter.unusedVariables false
set_option linter.unusedSimpArgs false
attribute [-go_sem] Instr.build
def recFit (r:RcT):Prop:=(0≤r.gen∧r.gen<18446744073709551616)∧(0≤r.epoch∧r.epoch<18446744073709551616)∧(0≤r.bad∧r.bad<18446744073709551616)∧∀ k,k<4→slFit (r.s k)
def slotsL (r:RcT) (n:Nat):List Int:=(List.range n).flatMap (fun k=>slBytes (r.s k))
def headB (r:RcT):List Int:=bigL 8 r.gen++bigL 8 r.epoch++r.salt++bigL 8 r.bad++zL 8++r.check
def recBody (r:RcT) (n:Nat):List Int:=headB r++slotsL r n
def recBytes (r:RcT) (key:List Int):List Int:=recBody r 4++tagB (blockL key) (recBody r 4)
theorem slotsL_succ (r:RcT) (n:Nat):slotsL r (n+1)=slotsL r n++slBytes (r.s n):=by simp[slotsL,List.range_succ]
theorem slotsL_len (r:RcT) (n:Nat) (h:∀ k,k<n→slRight (r.s k)=true):(slotsL r n).length=128*n:=by
 induction n with
 |zero=>rfl
 |succ n ih=>rw[slotsL_succ,List.length_append,ih (fun k hk=>h k (by omega)),slBytes_len _ (h n (by omega))];omega
theorem slotsR_all {r:RcT} {n:Nat} (h:slotsR r n=true):∀ k,k<n→slRight (r.s k)=true:=by
 intro k hk
 unfold slotsR at h
 rw[List.all_eq_true] at h
 exact h k (List.mem_range.2 hk)
theorem rcRight_parts {r:RcT} (h:rcRight r=true):(∀ k,k<4→slRight (r.s k)=true)∧r.salt.length=16∧r.check.length=32:=by
 unfold rcRight at h
 simp only[Bool.and_eq_true,decide_eq_true_eq] at h
 exact ⟨slotsR_all h.1,h.2.1,h.2.2⟩
theorem headB_len {r:RcT} (h:rcRight r=true):(headB r).length=80:=by
 obtain ⟨-,h1,h2⟩:=rcRight_parts h
 unfold headB
 simp only[List.length_append,bigL_length,zL_len,h1,h2]
theorem recBody_len {r:RcT} (h:rcRight r=true) (n:Nat) (hn:n≤4):(recBody r n).length=80+128*n:=by
 unfold recBody
 rw[List.length_append,headB_len h,slotsL_len r n (fun k hk=>(rcRight_parts h).1 k (by omega))]
theorem recBytes_len {r:RcT} (h:rcRight r=true) (key:List Int):(recBytes r key).length=624:=by
 unfold recBytes
 rw[List.length_append,recBody_len h 4 (Nat.le_refl _),tagB_length]
set_option maxHeartbeats 4000000 in
set_option maxRecDepth 100000 in
theorem recBytes_no (r:RcT) (A:Nat→Option Addr) (c:Nat→Nat) (K:Option Addr) (kc:Nat) (key:List Int) (w:World) (hV:RcV w r A c) (h : ¬(rcRight r=true∧key.length=32)) :
  Calls Try.prog 11 #[.agg (rcl r A c).toArray,.slice K key.length kc] w fun e w'=>e=.returned (.tuple #[.slice none 0 0,.int .i64 2])∧Below w.heap.size w w':=by
 obtain ⟨CA,hCA⟩:∃ CA,CA=(rcl r A c).toArray:=⟨_,rfl⟩
 obtain ⟨W1,hW1⟩:∃ W1,W1=w.alloc (.cells CA 28 (0,0)):=⟨_,rfl⟩
 have ha:=Lib.hid (show W1.heap[w.heap.size]?=some (.cells CA 28 (0,0)) by rw[hW1];exact heap_alloc_last _ _)
 have b1:=Lib.hid (show Below w.heap.size w W1 by rw[hW1];exact (Below.refl _ _).alloc (Nat.le_refl _) _)
 have hri:=Lib.hid (fun (W:World) (hW:Below w.heap.size w W)=>recRight_any r A c W (hV.below hW))
 have hsz:=Lib.hid (show (Try.prog.info? 28).map (·.size)=some CA.size by rw[hCA];exact szRc)
 rw[← hCA] at hri ⊢
 obtain ⟨n,hn⟩:∃ n,n=key.length:=⟨_,rfl⟩
 rw[← hn] at h ⊢
 clear hV hCA hn
 go_enter Try.func11,Try.ntmps11
 go_upto_region 1 with fail
 rw[← hW1]
 clear hW1
 cases hr:rcRight r with
 |false=>
  rw[hr] at hri
  clear hr h
  go_wp2_with (first
   |(with_reducible refine wpList_load_row rfl 28 _ rfl w.heap.size rfl 28 CA (0,0) _ ha.out Try.underlying28 rfl hsz.out ?_)
   |((with_reducible go_at_call 13);refine (hri.out _ b1.out).mono ?_;rintro e w2 ⟨rfl,hb⟩;have b2:=Lib.hid (below_step b1.out hb);clear hb))
  go_ret2
  exact ⟨rfl,b2.out⟩
 |true=>
  rw[hr] at hri
  have hn:n≠32:=fun e=>h ⟨hr,e⟩
  clear hr h
  have hn1:((n:Int)=32)=False:=by simp;omega
  have hn2:((n:Int) == 32)=false:=by simp;omega
  have hn3:((n:Int) != 32)=true:=by simp;omega
  clear hn
  go_wp2_with (first
   |(with_reducible refine wpList_load_row rfl 28 _ rfl w.heap.size rfl 28 CA (0,0) _ ha.out Try.underlying28 rfl hsz.out ?_)
   |((with_reducible go_at_call 13);refine (hri.out _ b1.out).mono ?_;rintro e w2 ⟨rfl,hb⟩;have b2:=Lib.hid (below_step b1.out hb);clear hb))
  go_ret2
  exact ⟨rfl,b2.out⟩
set_option maxHeartbeats 8000000 in
set_option maxRecDepth 100000 in
theorem recBytes_any (r:RcT) (A:Nat→Option Addr) (c:Nat→Nat) (K:Option Addr) (kc:Nat) (key:List Int) (w:World) (hV:RcV w r A c) (hf:recFit r) (hK:Kd.C (Kd.int .u8) w K key.length key) (hok:rcRight r=true) (hkl:key.length=32) :
  Calls Try.prog 11 #[.agg (rcl r A c).toArray,.slice K key.length kc] w fun e w'=>∃ X cX,e=.returned (.tuple #[.slice X (recBytes r key).length cX,.int .i64 0])∧w'.ownsRow w.heap.size 5 1 (.slice X (recBytes r key).length cX) (recBytes r key).length (nums .u8 (recBytes r key))∧Below w.heap.size w w':=by
 obtain ⟨hzS,-⟩:=zero_of_info (P:=Try.prog) infoSl
 obtain ⟨ZS,hZS⟩:∃ Z:Array Value,Z=zSl:=⟨_,rfl⟩
 rw[← hZS] at hzS
 obtain ⟨CA,hCA⟩:∃ CA,CA=(rcl r A c).toArray:=⟨_,rfl⟩
 obtain ⟨W1,hW1⟩:∃ W1,W1=w.alloc (.cells CA 28 (0,0)):=⟨_,rfl⟩
 have ha:=Lib.hid (show W1.heap[w.heap.size]?=some (.cells CA 28 (0,0)) by rw[hW1];exact heap_alloc_last _ _)
 have b1:=Lib.hid (show Below w.heap.size w W1 by rw[hW1];exact (Below.refl _ _).alloc (Nat.le_refl _) _)
 have hri:=Lib.hid (fun (W:World) (hW:Below w.heap.size w W)=>recRight_any r A c W (hV.below hW))
 have hsz:=Lib.hid (show (Try.prog.info? 28).map (·.size)=some CA.size by rw[hCA];exact szRc)
 have hCA':=Lib.hid hCA
 obtain ⟨hsr,hsl,hcl⟩:=rcRight_parts hok
 obtain ⟨⟨f0,f1⟩,⟨f2,f3⟩,⟨f4,f5⟩,f6⟩:=hf
 have hhl:=Lib.hid (headB_len hok)
 have hbl:=Lib.hid (fun n hn=>recBody_len hok n hn)
 have hrl:=Lib.hid (recBytes_len hok key)
 rw[← hCA,hok] at hri
 rw[← hCA]
 have hg0:=Lib.hid (fun W:World=>octet_Big.calls 9 r.gen 8 (bigL 8 r.gen) W (by rw[← big8_bigL _ f0 f1];exact big8_eq 0 _))
 have hg1:=Lib.hid (fun W:World=>octet_Big.calls 9 r.epoch 8 (bigL 8 r.epoch) W (by rw[← big8_bigL _ f2 f3];exact big8_eq 0 _))
 have hg2:=Lib.hid (fun W:World=>octet_Big.calls 9 r.bad 8 (bigL 8 r.bad) W (by rw[← big8_bigL _ f4 f5];exact big8_eq 0 _))
 have hfl:=Lib.hid (fun W:World=>octet_Fill.calls 200 0 8 (zL 8) W fill8)
 have hst:=Lib.hid (fun (W:World) (hW:Below w.heap.size w W)=>show Src Try.prog 1 23 (.slice (A 0) r.salt.length (c 0)) r.salt.length (r.salt.map (Value.int .u8)) W from src_of_C (Kd.C_below (hV 0 (by omega)).1 hW))
 have hck:=Lib.hid (fun (W:World) (hW:Below w.heap.size w W)=>show Src Try.prog 1 23 (.slice (A 1) r.check.length (c 1)) r.check.length (r.check.map (Value.int .u8)) W from src_of_C (Kd.C_below (hV 1 (by omega)).1 hW))
 have hsb:=Lib.hid (fun (W:World) (k:Nat) (hk:k<4) (hW:Below w.heap.size w W)=>slotBytes_any (r.s k) (A (k+2)) (c (k+2)) (hsr k hk) (f6 k hk) W (Kd.C_below (hV (k+2) (by omega)).1 hW) (hV (k+2) (by omega)).2)
 have htg:=Lib.hid (fun (W:World) (hW:Below w.heap.size w W) (X:Option Addr) (cX:Nat) (D:List Int) (hD:Kd.C (Kd.int .u8) W X D.length D) (hc:D.length≤cX) (hl:D.length≤1000000000)=>by
  have:=macTag_any K kc key X cX D W (Kd.C_below hK hW) (by omega) hD hc hl
  rw[hkl] at this
  exact this)
 obtain ⟨Ls,hLs⟩:∃ Ls,Ls=rcs r.s A c:=⟨_,rfl⟩
 have hrg:=Lib.hid (fun (W:World) (h:W.heap[w.heap.size]?=some (.cells CA 28 (0,0)))=>show W.rangeAt w.heap.size 5 Ls by rw[hLs];rw[hCA] at h;exact rc_slots h)
 have hcel:=Lib.hid (fun (W:World) (h:W.heap[w.heap.size]?=some (.cells CA 28 (0,0)))=>rc_head (r:=r) (A:=A) (c:=c) (by rw[hCA] at h;exact h))
 have hszL:=Lib.hid (show (Try.prog.info? 26).map (·.size)=some Ls.length by rw[hLs];exact szS4)
 have hix:=Lib.hid (fun (k:Nat) (hk:k<4) (W:World)=>show (Instr.index 26 (.agg Ls.toArray) (.int .i64 (k:Int))).run Try.prog W=.ok (.agg (slcl (r.s k) (A (k+2)) (c (k+2))).toArray) W from by
  rw[hLs,run_index_row (P:=Try.prog) 26 25 4 5 _ k Try.underlying26 szSl _ Try.underlying25 rfl hk W,rcs_extract r.s A c k hk])
 have hpl:=Lib.hid (fun k hk=>slBytes_len (r.s k) (hsr k hk))
 obtain ⟨LS,hLS⟩:∃ LS,LS=r.salt:=⟨_,rfl⟩
 obtain ⟨LC,hLC⟩:∃ LS,LS=r.check:=⟨_,rfl⟩
 obtain ⟨B0,hB0⟩:∃ B,B=bigL 8 r.gen:=⟨_,rfl⟩
 obtain ⟨B1,hB1⟩:∃ B,B=bigL 8 r.epoch:=⟨_,rfl⟩
 obtain ⟨B2,hB2⟩:∃ B,B=bigL 8 r.bad:=⟨_,rfl⟩
 obtain ⟨B3,hB3⟩:∃ B,B=zL 8:=⟨_,rfl⟩
 have l0:=Lib.hid (show B0.length=8 by rw[hB0,bigL_length])
 have l1:=Lib.hid (show B1.length=8 by rw[hB1,bigL_length])
 have l2:=Lib.hid (show B2.length=8 by rw[hB2,bigL_length])
 have l3:=Lib.hid (show B3.length=8 by rw[hB3,zL_len])
 have l4:=Lib.hid (show LS.length=16 by rw[hLS,hsl])
 have l5:=Lib.hid (show LC.length=32 by rw[hLC,hcl])
 have hhd:=Lib.hid (show headB r=B0++B1++LS++B2++B3++LC by rw[hB0,hB1,hB2,hB3,hLS,hLC];rfl)
 rw[← hLS,← hLC] at hcel
 rw[← hLS] at hst
 rw[← hLC] at hck
 rw[← hB0] at hg0
 rw[← hB1] at hg1
 rw[← hB2] at hg2
 rw[← hB3] at hfl
 obtain ⟨V0,hV0⟩:∃ V,V=r.gen:=⟨_,rfl⟩
 obtain ⟨V1,hV1⟩:∃ V,V=r.epoch:=⟨_,rfl⟩
 obtain ⟨V2,hV2⟩:∃ V,V=r.bad:=⟨_,rfl⟩
 rw[← hV0] at hg0
 rw[← hV1] at hg1
 rw[← hV2] at hg2
 rw[← hV0,← hV1,← hV2] at hcel
 rw[hkl]
 have hZS':=Lib.hid hZS
 clear hV hK hCA hkl hsr hsl hcl f0 f1 f2 f3 f4 f5 f6 hLs hLS hLC hB0 hB1 hB2 hB3 hV0 hV1 hV2 hZS hok
 go_enter Try.func11,Try.ntmps11
 go_upto_region 1 with fail
 rw[← hW1]
 clear hW1
 go_wp2_with (first
   |(with_reducible refine wpList_load_row rfl 28 _ rfl w.heap.size rfl 28 CA (0,0) _ ha.out Try.underlying28 rfl hsz.out ?_)
   |((with_reducible go_at_call 13);refine (hri.out _ b1.out).mono ?_;rintro e w2 ⟨rfl,hb⟩;have b2:=Lib.hid (below_step b1.out hb);have g2:=Lib.hid (heap_below ha.out hb);clear hb))
 refine start_ (n:=8) (S:=fun w'=>Below w.heap.size w w'∧w'.heap[w.heap.size]?=some (.cells CA 28 (0,0))) (ds:=[]) #[false,false,false,false,false,false,false,false] (by kernel_rfl) rfl rfl (by exact ⟨below_drew b2.out,g2.out⟩) (fun hHeld=>?_)
 refine pure_ (i:=0) (N:=some 19) (v:=?_) (a':=?_) #[true,false,false,false,false,false,false,false] rfl rfl (by kernel_rfl) (fun _ _ _ h=>h) (Or.inl ⟨by rfl,?_⟩) ?_ ?_
 rotate_left
 ·intro w';go_simp;with_reducible rfl
 rotate_left
 ·simp only[Act.put,sZ0,sZ1,sZ2,i64_w,i32_w];rfl
 refine take_ (i:=1) (N:=some 20) (v:=?_) (a':=?_) #[true,true,false,false,false,false,false,false] rfl rfl (by kernel_rfl) (fun _ _ _ h=>h) (Or.inl ⟨by rfl,?_⟩) hHeld ?_ ?_
 rotate_left
 ·intro w' hS
  have hq:=(hcel.out w' hS.2).1
  go_simp;with_reducible rfl
 rotate_left
 ·simp only[Act.put,sZ0,sZ1,sZ2,i64_w,i32_w];rfl
 refine pure_ (i:=3) (N:=some 22) (v:=?_) (a':=?_) #[true,true,false,true,false,false,false,false] rfl rfl (by kernel_rfl) (fun _ _ _ h=>h) (Or.inl ⟨by rfl,?_⟩) ?_ ?_
 rotate_left
 ·intro w';go_simp;with_reducible rfl
 rotate_left
 ·simp only[Act.put,sZ0,sZ1,sZ2,i64_w,i32_w];rfl
 refine take_ (i:=4) (N:=some 23) (v:=?_) (a':=?_) #[true,true,false,true,true,false,false,false] rfl rfl (by kernel_rfl) (fun _ _ _ h=>h) (Or.inl ⟨by rfl,?_⟩) hHeld ?_ ?_
 rotate_left
 ·intro w' hS
  have hq:=(hcel.out w' hS.2).2.1
  go_simp;with_reducible rfl
 rotate_left
 ·simp only[Act.put,sZ0,sZ1,sZ2,i64_w,i32_w];rfl
 refine one_ (i:=2) (N:=some 21) #[true,true,true,true,true,false,false,false] rfl rfl (by kernel_rfl) (by decide) (fun K hK=>?_)
 refine goes_ Try.func40 (by kernel_rfl) rfl #[.int .u64 V0,.int .i64 8] (by rfl) rfl rfl (by (try simp only[List.map_toArray,List.map_cons,List.map_nil]);first | done | rfl) ?_
 refine (hg0.out _).mono ?_
 rintro e w3 ⟨v1,rfl,hR,hb⟩
 obtain ⟨A3,c3,rfl⟩:=Kd.R_slice hR
 refine ⟨_,rfl,?_⟩
 have o3:=Lib.hid (own_less (nums_of_R hR) hHeld.1.size)
 refine hK.out _ _ ⟨below_step hHeld.1 hb,heap_below hHeld.2 hb⟩ (fun hHeld=>?_)
 clear hb hR
 clear hK K;refine norm_ (a':=?_) ?_ ?_
 rotate_left
 ·show Act.put _ (some 21) _=_
  simp only[Act.put,sZ0,sZ1,sZ2,i64_w,i32_w];rfl
 refine one_ (i:=5) (N:=some 24) #[true,true,true,true,true,true,false,false] rfl rfl (by kernel_rfl) (by decide) (fun K hK=>?_)
 refine goes_ Try.func40 (by kernel_rfl) rfl #[.int .u64 V1,.int .i64 8] (by rfl) rfl rfl (by (try simp only[List.map_toArray,List.map_cons,List.map_nil]);first | done | rfl) ?_
 refine (hg1.out _).mono ?_
 rintro e w4 ⟨v1,rfl,hR,hb⟩
 obtain ⟨A4,c4,rfl⟩:=Kd.R_slice hR
 obtain ⟨-,hc4,hC4⟩:=Kd.R_reads' hR
 refine ⟨_,rfl,?_⟩
 have sr4:=Lib.hid (src_of_C (c:=c4) hC4)
 have o4:=Lib.hid (own_move o3.out (fun k hk=>hb.block k (o3.out.lt k hk).2))
 refine hK.out _ _ ⟨below_step hHeld.1 hb,heap_below hHeld.2 hb⟩ (fun hHeld=>?_)
 clear hb hR hC4 hc4 o3
 clear hK K;refine norm_ (a':=?_) ?_ ?_
 rotate_left
 ·show Act.put _ (some 24) _=_
  simp only[Act.put,sZ0,sZ1,sZ2,i64_w,i32_w];rfl
 refine one_ (i:=6) (N:=some 25) #[true,true,true,true,true,true,true,false] rfl rfl (by kernel_rfl) (by decide) (fun K hK=>?_)
 refine step_append w.heap.size (.tmp 21) (.tmp 24) 23 (.slice A3 B0.length c3) B0 (.slice A4 B1.length c4) B1 (by rfl) rfl (by rfl) (by rfl) (by rfl) sr4.out o4.out hHeld.1.size (by have:=l0.out;have:=l1.out;omega) ?_
 intro A5 c5 w5 h1 hgr hbg
 refine hK.out _ _ ⟨hbg _ _ (Nat.le_refl _) hHeld.1,blk_grown hHeld.2 hgr (fun e=>own_ne o4.out hHeld.2 (by decide) _ e.symm rfl)⟩ (fun hHeld=>?_)
 have o5:=Lib.hid h1
 have hH5:=Lib.hid hHeld
 clear h1 hgr hbg o4 sr4 hHeld
 clear hK K;refine norm_ (a':=?_) ?_ ?_
 rotate_left
 ·show Act.put _ (some 25) _=_
  simp only[Act.put,sZ0,sZ1,sZ2,i64_w,i32_w];rfl
 refine pure_ (i:=7) (N:=some 6) (v:=?_) (a':=?_) #[true,true,true,true,true,true,true,true] rfl rfl (by kernel_rfl) (fun _ _ _ h=>h) (Or.inl ⟨by rfl,?_⟩) ?_ ?_
 rotate_left
 ·intro w';go_simp;with_reducible rfl
 rotate_left
 ·simp only[Act.put,sZ0,sZ1,sZ2,i64_w,i32_w];rfl
 refine done_ (by kernel_rfl) ?_
 obtain ⟨D1,hD1⟩:∃ D,D=B0++B1:=⟨_,rfl⟩
 rw[← hD1] at o5 ⊢
 have d1:=Lib.hid (show D1.length=16 by rw[hD1,List.length_append,l0.out,l1.out])
 rw[show B0.length+B1.length=D1.length by rw[hD1,List.length_append]]
 obtain ⟨D2,hD2⟩:∃ D,D=D1++LS:=⟨_,rfl⟩
 obtain ⟨D3,hD3⟩:∃ D,D=D2++B2:=⟨_,rfl⟩
 obtain ⟨D4,hD4⟩:∃ D,D=D3++B3:=⟨_,rfl⟩
 obtain ⟨D5,hD5⟩:∃ D,D=D4++LC:=⟨_,rfl⟩
 have d2:=Lib.hid (show D2.length=32 by rw[hD2,List.length_append,d1.out,l4.out])
 have d3:=Lib.hid (show D3.length=40 by rw[hD3,List.length_append,d2.out,l2.out])
 have d4:=Lib.hid (show D4.length=48 by rw[hD4,List.length_append,d3.out,l3.out])
 have hh5:=Lib.hid (show D5=headB r by rw[hhd.out,hD5,hD4,hD3,hD2,hD1])
 have hD2':=Lib.hid hD2
 have hD3':=Lib.hid hD3
 have hD4':=Lib.hid hD4
 have hD5':=Lib.hid hD5
 have b5:=Lib.hid hH5.out.1
 have g5:=Lib.hid hH5.out.2
 obtain ⟨-,-,q5,-,-⟩:=hcel.out _ g5.out
 clear hD1 hD2 hD3 hD4 hD5 hH5 ha b1 hri hsz b2 g2 hg0 hg1 hHeld
 go_wp2_with (first
  |(refine wpList_own_append rfl (.tmp 26) (.tmp 28) 23 rfl w.heap.size (.slice A5 D1.length c5) D1 (.slice (A 0) LS.length (c 0)) LS rfl rfl (hst.out _ b5.out) o5.out b5.out.size (by have:=d1.out;have:=l4.out;omega) ?_;intro v6 w6 h1 h2;obtain ⟨A6,c6,rfl⟩:=own_slice h1;have b6:=Lib.hid (b5.out.grown h2 b5.out.size (fun j hj=>(o5.out.lt j hj).1));have g6:=Lib.hid (blk_grown g5.out h2 (fun e=>own_ne o5.out g5.out (by decide) _ e.symm rfl));have o6:=Lib.hid h1;rw[← hD2'.out] at o6 ⊢;obtain ⟨-,-,-,q6,-⟩:=hcel.out _ g6.out;clear h1 h2)
  |((with_reducible go_at_call 40);(with_reducible refine (hg2.out _).mono ?_);rintro e w7 ⟨v1,rfl,hR,hb⟩;obtain ⟨A7,c7,rfl⟩:=Kd.R_slice hR;obtain ⟨-,hc7,hC7⟩:=Kd.R_reads' hR;have b7:=Lib.hid (below_step b6.out hb);have sr7:=Lib.hid (src_of_C (c:=c7) hC7);have o7:=Lib.hid (own_move o6.out (fun k hk=>hb.block k (o6.out.lt k hk).2));have g7:=Lib.hid (heap_below g6.out hb);clear hb hR hC7 hc7)
  |(refine wpList_own_append rfl (.tmp 30) (.tmp 33) 23 rfl w.heap.size (.slice A6 D2.length c6) D2 (.slice A7 B2.length c7) B2 rfl rfl sr7.out o7.out b7.out.size (by have:=d2.out;have:=l2.out;omega) ?_;intro v8 w8 h1 h2;obtain ⟨A8,c8,rfl⟩:=own_slice h1;have b8:=Lib.hid (b7.out.grown h2 b7.out.size (fun j hj=>(o7.out.lt j hj).1));have g8:=Lib.hid (blk_grown g7.out h2 (fun e=>own_ne o7.out g7.out (by decide) _ e.symm rfl));have o8:=Lib.hid h1;rw[← hD3'.out] at o8 ⊢;clear h1 h2)
  |((with_reducible go_at_call 41);(with_reducible refine (hfl.out _).mono ?_);rintro e w9 ⟨v1,rfl,hR,hb⟩;obtain ⟨A9,c9,rfl⟩:=Kd.R_slice hR;obtain ⟨-,hc9,hC9⟩:=Kd.R_reads' hR;have b9:=Lib.hid (below_step b8.out hb);have sr9:=Lib.hid (src_of_C (c:=c9) hC9);have o9:=Lib.hid (own_move o8.out (fun k hk=>hb.block k (o8.out.lt k hk).2));have g9:=Lib.hid (heap_below g8.out hb);clear hb hR hC9 hc9)
  |(refine wpList_own_append rfl (.tmp 35) (.tmp 36) 23 rfl w.heap.size (.slice A8 D3.length c8) D3 (.slice A9 B3.length c9) B3 rfl rfl sr9.out o9.out b9.out.size (by have:=d3.out;have:=l3.out;omega) ?_;intro v10 w10 h1 h2;obtain ⟨A10,c10,rfl⟩:=own_slice h1;have b10:=Lib.hid (b9.out.grown h2 b9.out.size (fun j hj=>(o9.out.lt j hj).1));have g10:=Lib.hid (blk_grown g9.out h2 (fun e=>own_ne o9.out g9.out (by decide) _ e.symm rfl));have o10:=Lib.hid h1;rw[← hD4'.out] at o10 ⊢;obtain ⟨-,-,-,-,q10⟩:=hcel.out _ g10.out;clear h1 h2)
  |(refine wpList_own_append rfl (.tmp 38) (.tmp 40) 23 rfl w.heap.size (.slice A10 D4.length c10) D4 (.slice (A 1) LC.length (c 1)) LC rfl rfl (hck.out _ b10.out) o10.out b10.out.size (by have:=d4.out;have:=l5.out;omega) ?_;intro v11 w11 h1 h2;obtain ⟨A11,c11,rfl⟩:=own_slice h1;have b11:=Lib.hid (b10.out.grown h2 b10.out.size (fun j hj=>(o10.out.lt j hj).1));have g11:=Lib.hid (blk_grown g10.out h2 (fun e=>own_ne o10.out g10.out (by decide) _ e.symm rfl));have o11:=Lib.hid h1;rw[← hD5'.out] at o11 ⊢;clear h1 h2)
  |(with_reducible refine wpList_load_mid rfl 26 _ rfl w.heap.size 5 rfl Ls _ (hrg.out _ g11.out) Try.underlying26 rfl hszL.out ?_))
 have o11':=Lib.hid (show w11.ownsRow w.heap.size 5 1 (.slice A11 D5.length c11) (recBody r 0).length (nums .u8 (recBody r 0)) by
  have e:recBody r 0=D5:=by rw[hh5.out];exact List.append_nil _
  rw[e];exact o11.out)
 clear hcel hst hck hg2 hfl q5 b5 g5 o5 b6 g6 o6 q6 b7 sr7 o7 g7 b8 g8 o8 b9 sr9 o9 g9 b10 g10 o10 q10 o11 l0 l1 l2 l3 l4 l5 d1 d2 d3 d4 hhd hD2' hD3' hD4' hD5' hszL hrg
 go_loopw [6,8,9,10,44] (fun v _ _ _ i wr=>∃ k:Nat,k≤4∧i=.int .i64 k∧wr.ownsRow w.heap.size 5 1 v (recBody r k).length (nums .u8 (recBody r k))∧wr.heap[w.heap.size]?=some (.cells CA 28 (0,0))∧Below w.heap.size w wr) (fun _ _ _ _ i _=>4 - (intOf i).toNat)
 case atStart=>exact ⟨0,by omega,rfl,o11'.out,g11.out,b11.out⟩
 case round=>
  obtain ⟨k,hk,rfl,hown,hg,hb⟩:=hrel
  obtain ⟨Av,cv,rfl⟩:=own_slice hown
  have hown':=Lib.hid hown
  have hg':=Lib.hid hg
  have hb':=Lib.hid hb
  have hDl:=Lib.hid (hbl.out k hk)
  clear hown hg hb o11' g11 b11 hh5
  by_cases hlt:k<4
  ·have q1:(k:Int)<4:=by omega
   have q2:(0:Int)≤(k:Int):=by omega
   have kw:IntKind.i64.wrap ((k:Int)+1)=(k:Int)+1:=by rw[IntKind.wrap_i64];omega
   have hk1:=Lib.hid hlt
   have hx:=hix.out k hlt wr
   have hr1:=Lib.hid (fun W hW=>hsb.out W k hk1.out hW)
   obtain ⟨P,hP⟩:∃ P,P=slBytes (r.s k):=⟨_,rfl⟩
   rw[← hP] at hr1
   have hPl:=Lib.hid (show P.length=128 by rw[hP];exact hpl.out k hlt)
   obtain ⟨D,hD⟩:∃ D,D=recBody r k:=⟨_,rfl⟩
   have hsucc:=Lib.hid (show D++P=recBody r (k+1) by rw[hD,hP];unfold recBody;rw[slotsL_succ,List.append_assoc])
   rw[← hD] at hown' hDl ⊢
   obtain ⟨CX,hCX⟩:∃ CX,CX=(slcl (r.s k) (A (k+2)) (c (k+2))).toArray:=⟨_,rfl⟩
   rw[← hCX] at hx hr1
   have hs1:=Lib.hid (show (Try.prog.info? 25).map (·.size)=some CX.size by rw[hCX];exact szSl)
   have ho1:=Lib.hid (show CX.all (·.oneCell')=true by rw[hCX];exact slcl_one _ _ _)
   have hz1:=Lib.hid (show ZS.size=CX.size by rw[hCX,hZS'.out];rfl)
   clear hCX hlt hk hP hD
   go_wp2_with (first
    |((with_reducible go_at_call 42);refine (hr1.out _ (below_step hb'.out b12.out)).mono ?_;rintro e w4 ⟨X4,cX4,rfl,hC4,hc4,hbb⟩;have b4:=Lib.hid (below_step (below_step hb'.out b12.out) hbb);have g4:=Lib.hid (heap_below (heap_below hg'.out b12.out) hbb);have o4:=Lib.hid (own_move (own_move hown'.out (fun k hk=>b12.out.block k (hown'.out.lt k hk).2)) (fun k hk=>hbb.block k (Nat.lt_of_lt_of_le (hown'.out.lt k hk).2 b12.out.size)));have sr4:=Lib.hid (src_cut (c:=cX4) hPl.out (by rw[hPl.out] at hC4;exact hC4));clear hbb hC4 hc4)
    |(with_reducible refine wpList_store_row rfl 25 _ _ rfl wr.heap.size CX rfl rfl 25 ZS (heap_alloc_last _ _) hs1.out hz1.out ho1.out ?_;have b12:=Lib.hid (below_setRow ((Below.refl wr.heap.size wr).alloc (Nat.le_refl _) (.cells ZS 25 (0,0))) (Nat.le_refl _) CX);have hk5:=Lib.hid (setRow_heap (wr.alloc (.cells ZS 25 (0,0))) wr.heap.size ZS CX 25 (0,0) (heap_alloc_last _ _));generalize (wr.alloc (.cells ZS 25 (0,0))).setRow wr.heap.size CX=w3 at *)
    |(with_reducible refine wpList_load_row rfl 25 _ rfl wr.heap.size rfl 25 CX (0,0) _ hk5.out Try.underlying25 rfl hs1.out ?_)
    |(refine wpList_own_append rfl (.tmp 52) (.tmp 53) 23 rfl w.heap.size (.slice Av D.length cv) D (.slice X4 128 cX4) P rfl rfl sr4.out o4.out b4.out.size (by have:=hDl.out;have:=hPl.out;have:=hk1.out;omega) ?_;intro v7 w7 h1 h2;have b7:=Lib.hid (b4.out.grown h2 b4.out.size (fun j hj=>(o4.out.lt j hj).1));have g7:=Lib.hid (blk_grown g4.out h2 (fun e=>own_ne o4.out g4.out (by decide) _ e.symm rfl));have o7:=Lib.hid h1;clear h1 h2))
   rw[hsucc.out] at o7
   exact ⟨⟨k+1,hk1.out,by push_cast;rfl,o7.out,g7.out,b7.out⟩,by have:=hk1.out;simp only[intOf];omega⟩
  obtain rfl:k=4:=by omega
  have hrb:=Lib.hid (show recBytes r key=recBody r 4++tagB (blockL key) (recBody r 4) from rfl)
  have htl:=Lib.hid (tagB_length (blockL key) (recBody r 4))
  obtain ⟨e1,e2,e3⟩:=C_of_own hown'.out
  have htg1:=Lib.hid (htg.out wr hb'.out Av cv (recBody r 4) e3 e2 (by have:=hDl.out;omega))
  obtain ⟨D,hD⟩:∃ D,D=recBody r 4:=⟨_,rfl⟩
  rw[← hD] at hown' hDl hrb htl htg1 ⊢
  obtain ⟨T,hT⟩:∃ T,T=tagB (blockL key) D:=⟨_,rfl⟩
  rw[← hT] at hrb htl htg1
  clear hlt hk e1 e2 e3 hD hT hsb hix hpl
  go_wp2_with (first
   |((with_reducible go_at_call 43);(with_reducible refine htg1.out.mono ?_);rintro e w4 ⟨v1,rfl,hR,hbb⟩;obtain ⟨A4,c4,rfl⟩:=Kd.R_slice hR;obtain ⟨-,hc4,hC4⟩:=Kd.R_reads' hR;have b4:=Lib.hid (below_step hb'.out hbb);have sr4:=Lib.hid (src_of_C (c:=c4) hC4);have o4:=Lib.hid (own_move hown'.out (fun k hk=>hbb.block k (hown'.out.lt k hk).2));clear hbb hR hC4 hc4)
   |(refine wpList_own_append rfl (.tmp 56) (.tmp 59) 23 rfl w.heap.size (.slice Av D.length cv) D (.slice A4 T.length c4) T rfl rfl sr4.out o4.out b4.out.size (by have:=hDl.out;have:=htl.out;omega) ?_;intro v7 w7 h1 h2;obtain ⟨A7,c7,rfl⟩:=own_slice h1;have b7:=Lib.hid (b4.out.grown h2 b4.out.size (fun j hj=>(o4.out.lt j hj).1));have o7:=Lib.hid h1;clear h1 h2;rw[← hrb.out] at o7 ⊢))
  go_ret2
  exact ⟨A7,c7,rfl,o7.out,b7.out⟩
end Go.Proofs.Ytbajioiiaamokaa.Own
