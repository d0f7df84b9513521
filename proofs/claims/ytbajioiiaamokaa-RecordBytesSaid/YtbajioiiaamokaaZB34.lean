/- SbA, pruned (slim.py). -/
import Derived.Test.YtbajioiiaamokaaZB32
import Derived.Test.YtbajioiiaamokaaZB33
namespace Go.Proofs.Ytbajioiiaamokaa.Own
open Go.RowKit Go.Proofs.Ytbajioiiaamokaa.Arr Go.Proofs.Ytbajioiiaamokaa.QB Go.Proofs.YtbajioiiaamokaaW.PrintWords Go.Proofs.YtbajioiiaamokaaW.PrintLast Go.Proofs.YtbajioiiaamokaaW.PrintMore
set_option linter.unusedVariables false
set_option linter.unusedSimpArgs false
attribute [-go_sem] Instr.build
theorem slBytes_len (x:SlT) (h:slRight x=true):(slBytes x).length=128:=by
 unfold slRight at h
 unfold slBytes
 by_cases hu:x.used=true
 ·rw[if_pos hu] at h ⊢
  have:=of_decide_eq_true h
  simp[bigL_length];omega
 rw[if_neg hu];simp[zL]
theorem built2 (a b:Int):Try.prog.built 115 (#[(0,.int .u64 a),(1,.int .u64 b)]:Array (Nat × Value)).toList=some (ints .u64 [a,b]):=by kernel_rfl
theorem size22:(Try.prog.info? 22).map (·.size)=some 1:=by kernel_rfl
def twoL (l:List Int) (k:Nat):List Int:=(l.take k).flatMap (bigL 8)
theorem twoL_succ (l:List Int) (k:Nat) (h:k<l.length):twoL l (k+1)=twoL l k++bigL 8 (l.getD k 0):=by
 unfold twoL
 rw[List.take_succ_eq_append_getElem h,List.flatMap_append,List.getD_eq_getElem?_getD,List.getElem?_eq_getElem h]
 simp
theorem twoL_len (l:List Int) (k:Nat):(twoL l k).length≤8*l.length:=by
 unfold twoL
 have:∀ m:List Int,(m.flatMap (bigL 8)).length=8*m.length:=by
  intro m
  induction m with
  |nil=>rfl
  |cons x m ih=>rw[List.flatMap_cons,List.length_append,ih,bigL_length,List.length_cons];omega
 rw[this,List.length_take];omega
set_option maxHeartbeats 4000000 in
set_option maxRecDepth 100000 in
theorem slotBytes_any (x:SlT) (A:Option Addr) (c:Nat) (hr:slRight x=true) (hf:slFit x) (w:World) (hC:Kd.C (Kd.int .u8) w A x.wrap.length x.wrap) (hc:x.wrap.length≤c) :
  Calls Try.prog 42 #[.agg (slcl x A c).toArray] w fun e w'=>∃ X cX,e=.returned (.tuple #[.slice X 128 cX,.int .i64 0])∧Kd.C (Kd.int .u8) w' X (slBytes x).length (slBytes x)∧128≤cX∧Below w.heap.size w w':=by
 obtain ⟨CA,hCA⟩:∃ CA,CA=(slcl x A c).toArray:=⟨_,rfl⟩
 obtain ⟨W1,hW1⟩:∃ W1,W1=w.alloc (.cells CA 25 (0,0)):=⟨_,rfl⟩
 have ha:=Lib.hid (show W1.heap[w.heap.size]?=some (.cells (slcl x A c).toArray 25 (0,0)) by rw[hW1,← hCA];exact heap_alloc_last _ _)
 have b1:=Lib.hid (show Below w.heap.size w W1 by rw[hW1];exact (Below.refl _ _).alloc (Nat.le_refl _) _)
 have hri:=Lib.hid (fun (W:World) (h:Below w.heap.size w W)=>slot_Right.calls x.used x.size x.epoch x.count A c x.wrap true W (Kd.C_below hC h) hc (by rw[slRight_eq x,hr]))
 obtain ⟨p0,p1,p2,p3,p4⟩:=sl_cells ha.out
 have hlen:=Lib.hid (slBytes_len x hr)
 rw[← hCA]
 have hCA':=Lib.hid hCA
 clear hCA
 cases hu:x.used
 ·have hb0:slBytes x=zL 128:=by unfold slBytes;rw[if_neg (by rw[hu];simp)]
  have hfill:=Lib.hid (fun W:World=>octet_Fill.calls 200 0 128 (zL 128) W fill128)
  rw[hb0]
  rw[hu] at p0 hri
  clear hb0 hr hf hC hu
  go_enter Try.func42,Try.ntmps42
  go_upto_region 1 with fail
  rw[← hW1]
  clear hW1
  go_wp2_with (first
   |((with_reducible go_at_call 45);refine (hri.out _ b1.out).mono ?_;rintro e w2 ⟨rfl,hb⟩;have b2:=Lib.hid (below_step b1.out hb);have q0:=pw_cell_below hb p0;clear hb)
   |((with_reducible go_at_call 41);refine (hfill.out _).mono ?_;rintro e w3 ⟨v1,rfl,hR,hb⟩;obtain ⟨Af,cf,rfl⟩:=Kd.R_slice hR;obtain ⟨-,hcf,hCf⟩:=Kd.R_reads' hR;have b3:=Lib.hid (below_step b2.out hb);have hcf':=Lib.hid hcf;have hCf':=Lib.hid hCf;clear hb hR hcf hCf))
  go_ret2
  exact ⟨Af,cf,rfl,hCf'.out,by have:=hcf'.out;rw[zL_len] at this;exact this,b3.out⟩
 have hb0:slBytes x=[1,0,0,0]++bigL 4 x.size++bigL 8 x.epoch++bigL 8 x.count++x.wrap:=by unfold slBytes;rw[if_pos hu]
 have hr2:=hr
 unfold slRight at hr2
 rw[if_pos hu] at hr2
 obtain ⟨r1,r2,r3⟩:=of_decide_eq_true hr2
 rw[hu] at p0 hri
 obtain ⟨sz,hsz⟩:∃ sz,sz=x.size:=⟨_,rfl⟩
 have s0:0≤sz:=by omega
 have s1:sz≤65535:=by omega
 have hbig4:=Lib.hid (fun W:World=>octet_Big.calls 5 sz 4 (bigL 4 sz) W (by rw[← big4_bigL];exact big4_eq 0 sz))
 have hbig8:=Lib.hid (fun (v:Int) (h0:0≤v) (h1:v<18446744073709551616) (W:World)=>octet_Big.calls 9 v 8 (bigL 8 v) W (by rw[← big8_bigL v h0 h1];exact big8_eq 0 v))
 rw[← hsz] at p1 hb0
 have hf3:=hf.2.2.1
 have hf4:=hf.2.2.2.1
 have hf5:=hf.2.2.2.2.1
 have hf6:=hf.2.2.2.2.2.1
 obtain ⟨ep,hep⟩:∃ e,e=x.epoch:=⟨_,rfl⟩
 obtain ⟨cn,hcn⟩:∃ e,e=x.count:=⟨_,rfl⟩
 rw[← hep] at p2 hb0 hf3 hf4
 rw[← hcn] at p3 hb0 hf5 hf6
 rw[← hsz,← hep,← hcn] at hri
 have hE:=Lib.hid (show ∀ k,k<2→0 ≤ [ep,cn].getD k 0 ∧ [ep,cn].getD k 0<18446744073709551616 from fun k hk=>by
  match k,hk with
  |0,_=>exact ⟨hf3,hf4⟩
  |1,_=>exact ⟨hf5,hf6⟩)
 have hb2:∀ W:World,(Instr.build 115 #[(0,.int .u64 ep),(1,.int .u64 cn)]).run Try.prog W=.ok (.agg (ints .u64 [ep,cn])) W:=fun W=>run_build W _ _ _ (built2 ep cn)
 have hix:=Lib.hid (fun (k:Nat) (hk:k<2) (W:World)=>run_index_ints (P:=Try.prog) 115 22 2 .u64 [ep,cn] k Try.underlying115 size22 _ Try.underlying22 rfl rfl hk W)
 obtain ⟨E2,hE2⟩:∃ E2,E2=ints .u64 [ep,cn]:=⟨_,rfl⟩
 rw[← hE2] at hb2 hix
 obtain ⟨EL,hEL⟩:∃ EL:List Int,EL=[ep,cn]:=⟨_,rfl⟩
 rw[← hEL] at hE hix
 have hELl:=Lib.hid (show EL.length=2 by rw[hEL];rfl)
 have hb1':=Lib.hid (show slBytes x=[1,0,0,0]++bigL 4 sz++twoL EL 2++x.wrap by rw[hb0,hEL];show _=_++(bigL 8 ep++(bigL 8 cn ++ []))++_;rw[List.append_nil];simp only[List.append_assoc])
 obtain ⟨B4,hB4⟩:∃ B4,B4=[1,0,0,0]++bigL 4 sz:=⟨_,rfl⟩
 rw[← hB4] at hb1'
 have hB4':=Lib.hid hB4
 have hB4l:=Lib.hid (show B4.length=8 by rw[hB4,List.length_append,bigL_length];rfl)
 have hwl:=Lib.hid (show x.wrap.length=104 from r3)
 have hC':=Lib.hid hC
 obtain ⟨L,hL⟩:∃ L,L=x.wrap:=⟨_,rfl⟩
 have hL'':=Lib.hid hL.symm
 rw[← hL] at p4 hC' hwl hb1' hri
 have hep':=Lib.hid hep
 have hcn':=Lib.hid hcn
 clear hb0 hr hr2 hf hC hu r1 r2 r3 hsz hep hcn hf3 hf4 hf5 hf6 hE2 hEL hB4 hL
 go_enter Try.func42,Try.ntmps42
 go_upto_region 1 with fail
 rw[← hW1]
 clear hW1
 go_wp2_with (first
  |((with_reducible go_at_call 45);refine (hri.out _ b1.out).mono ?_;rintro e w2 ⟨rfl,hb⟩;have b2:=Lib.hid (below_step b1.out hb);have ha2:=Lib.hid (heap_below ha.out hb);have q0:=pw_cell_below hb p0;have q1:=pw_cell_below hb p1;have q2:=pw_cell_below ((Below.refl _ w2).alloc (Nat.le_refl _) (.cells #[.int .u8 1,.int .u8 0,.int .u8 0,.int .u8 0] 5 (0,0))) q1;clear hb;have ho2:=Lib.hid (own_lit w2 w.heap.size 5 .u8 [1,0,0,0] b2.out.size (by decide));have b3:=Lib.hid (below_alloc b2.out (.cells (nums .u8 [1,0,0,0]).toArray 5 (0,0)));have ha3:=Lib.hid ((heap_skip w2 (.cells (nums .u8 [1,0,0,0]).toArray 5 (0,0)) w.heap.size (Nat.ne_of_lt (lt_of_heap ha2.out))).trans ha2.out))
  |((with_reducible go_at_call 40);(with_reducible refine (hbig4.out _).mono ?_);rintro e w4 ⟨v1,rfl,hR,hb⟩;obtain ⟨A4,c4,rfl⟩:=Kd.R_slice hR;obtain ⟨-,hc4,hC4⟩:=Kd.R_reads' hR;have b4:=Lib.hid (below_step b3.out hb);have hsr4:=Lib.hid (src_of_C (c:=c4) hC4);have ho4:=Lib.hid (own_move ho2.out (fun k hk=>hb.block k (ho2.out.lt k hk).2));have ha4:=Lib.hid (heap_below ha3.out hb);clear hb hR hC4 hc4)
  |(refine wpList_own_append rfl (.tmp 15) (.tmp 19) 23 rfl w.heap.size (.slice (some ⟨w2.heap.size,0,none⟩) 4 4) [1,0,0,0] (.slice A4 (bigL 4 sz).length c4) (bigL 4 sz) rfl rfl hsr4.out ho4.out b4.out.size (by rw[bigL_length];decide) ?_;intro v5 w5 h1 h2;rw[← hB4'.out] at h1;obtain ⟨A5,c5,rfl⟩:=own_slice h1;have b5:=Lib.hid (b4.out.grown h2 b4.out.size (fun j hj=>(ho4.out.lt j hj).1));have ha5:=Lib.hid (blk_grown ha4.out h2 (fun e=>own_ne ho4.out ha4.out (by decide) _ e.symm rfl));have ho5:=Lib.hid h1;obtain ⟨-,-,d2,d3,-⟩:=sl_cells ha5.out;rw[← hep'.out] at d2;rw[← hcn'.out] at d3;rw[← hCA'.out] at ha5;clear h1 h2 q0 q1 q2))
 go_loopw [4,6,26] (fun v _ i wr=>∃ k:Nat,k≤2∧i=.int .i64 k∧wr.ownsRow w.heap.size 5 1 v (B4++twoL EL k).length (nums .u8 (B4++twoL EL k))∧wr.heap[w.heap.size]?=some (.cells CA 25 (0,0))∧Below w.heap.size w wr) (fun _ _ i _=>2 - (intOf i).toNat)
 case atStart=>exact ⟨0,Nat.zero_le _,rfl,by rw[show B4++twoL EL 0=B4 from List.append_nil _];exact ho5.out,ha5.out,b5.out⟩
 case round=>
  obtain ⟨k,hk,rfl,hown,hga,hbw⟩:=hrel
  obtain ⟨Av,cv,rfl⟩:=own_slice hown
  have hown':=Lib.hid hown
  have hbw':=Lib.hid hbw
  have hga':=Lib.hid hga
  have htl:=twoL_len EL k
  rw[hELl.out] at htl
  by_cases hlt:k<2
  ·have hr1:=hix.out k hlt wr
   obtain ⟨e0,e1⟩:=hE.out k hlt
   have hsucc:=Lib.hid (twoL_succ EL k (by rw[hELl.out];exact hlt))
   obtain ⟨ev,hev⟩:∃ ev,ev=EL.getD k 0:=⟨_,rfl⟩
   rw[← hev] at hr1 e0 e1 hsucc
   have hbv:=Lib.hid (hbig8.out ev e0 e1)
   obtain ⟨D,hD⟩:∃ D,D=B4++twoL EL k:=⟨_,rfl⟩
   have hD':=Lib.hid hD
   have hDl:=Lib.hid (show D.length≤24 by rw[hD,List.length_append,hB4l.out];omega)
   rw[← hD] at hown' ⊢
   clear hown hbw hga htl hD hev
   go_wp2_with (first
    |((with_reducible go_at_call 40);(with_reducible refine (hbv.out _).mono ?_);rintro e w6 ⟨v1,rfl,hR,hb⟩;obtain ⟨A6,c6,rfl⟩:=Kd.R_slice hR;obtain ⟨-,hc6,hC6⟩:=Kd.R_reads' hR;have b6:=Lib.hid (below_step hbw'.out hb);have hsr6:=Lib.hid (src_of_C (c:=c6) hC6);have ho6:=Lib.hid (own_move hown'.out (fun k hk=>hb.block k (hown'.out.lt k hk).2));have ha6:=Lib.hid (heap_below hga'.out hb);clear hb hR hC6 hc6)
    |(refine wpList_own_append rfl (.tmp 29) (.tmp 31) 23 rfl w.heap.size (.slice Av D.length cv) D (.slice A6 (bigL 8 ev).length c6) (bigL 8 ev) rfl rfl hsr6.out ho6.out b6.out.size (by rw[bigL_length];have:=hDl.out;omega) ?_;intro v7 w7 h1 h2;have b7:=Lib.hid (b6.out.grown h2 b6.out.size (fun j hj=>(ho6.out.lt j hj).1));have ha7:=Lib.hid (blk_grown ha6.out h2 (fun e=>own_ne ho6.out ha6.out (by decide) _ e.symm rfl));have ho7:=Lib.hid h1;clear h1 h2))
   rw[hD'.out,List.append_assoc,← hsucc.out] at ho7
   refine ⟨⟨k+1,by omega,by go_num,ho7.out,ha7.out,b7.out⟩,?measure⟩
   case measure=>simp[intOf];omega
  obtain rfl:k=2:=by omega
  rw[hCA'.out] at hga
  obtain ⟨-,-,-,-,d4⟩:=sl_cells hga
  rw[hL''.out] at d4
  have hCL:=Lib.hid (Kd.C_below hC'.out hbw)
  have hsr8:=Lib.hid (src_of_C (c:=c) hCL.out)
  obtain ⟨D,hD⟩:∃ D,D=B4++twoL EL 2:=⟨_,rfl⟩
  have hDl:=Lib.hid (show D.length≤24 by rw[hD,List.length_append,hB4l.out];omega)
  rw[← hD] at hown' hb1' ⊢
  clear hown hbw hga htl hlt hk hD
  go_wp2_with (refine wpList_own_append rfl (.tmp 34) (.tmp 36) 23 rfl w.heap.size (.slice Av D.length cv) D (.slice A L.length c) L rfl rfl hsr8.out hown'.out hbw'.out.size (by have:=hDl.out;have:=hwl.out;omega) ?_;intro v7 w7 h1 h2;obtain ⟨A7,c7,rfl⟩:=own_slice h1;have b7:=Lib.hid (hbw'.out.grown h2 hbw'.out.size (fun j hj=>(hown'.out.lt j hj).1));have ho7:=Lib.hid h1;clear h1 h2)
  rw[← hb1'.out] at ho7
  obtain ⟨q1,q2,q3⟩:=C_of_own ho7.out
  have hb1l:=Lib.hid hb1'.out
  have e128:D.length+L.length=128:=by rw[← List.length_append,← hb1l.out,hlen.out]
  rw[e128]
  rw[hlen.out] at q2
  go_ret2
  exact ⟨A7,c7,rfl,q3,q2,b7.out⟩
end Go.Proofs.Ytbajioiiaamokaa.Own
