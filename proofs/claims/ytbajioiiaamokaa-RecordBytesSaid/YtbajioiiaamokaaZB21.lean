/- Mb1, pruned (slim.py). -/
import Derived.Test.YtbajioiiaamokaaZB20
namespace Go.Proofs.Ytbajioiiaamokaa.Own
open Go.RowKit Go.Proofs.Ytbajioiiaamokaa.Arr Go.Proofs.Ytbajioiiaamokaa.QB Go.Proofs.YtbajioiiaamokaaW.PrintWords Go.Proofs.YtbajioiiaamokaaW.PrintLast Go.Proofs.YtbajioiiaamokaaW.PrintMore
set_option linter.unusedVariables false
set_option linter.unusedSimpArgs false
def pre (l:List Int) (i:Nat):List Int:=l.take i++List.replicate (l.length - i) 0
theorem pre_zero (l:List Int):pre l 0=List.replicate l.length 0:=by simp[pre]
theorem pre_all (l:List Int):pre l l.length=l:=by simp[pre]
theorem pre_length (l:List Int) (i:Nat) (h:i≤l.length):(pre l i).length=l.length:=by simp[pre];omega
theorem pre_set (l:List Int) (i:Nat) (h:i<l.length):(pre l i).set i (l.getD i 0)=pre l (i+1):=by
 have e:List.replicate (l.length - i) (0:Int)=0 :: List.replicate (l.length - (i+1)) 0:=by
  rw[show l.length - i=(l.length - (i+1))+1 from by omega,List.replicate_succ]
 unfold pre
 have e2:l.take (i+1)=l.take i ++ [l[i]]:=List.take_succ_eq_append_getElem h
 rw[e,List.set_append_right _ _ (by simp;omega)]
 simp[Nat.min_eq_left (Nat.le_of_lt h),h]
 rw[e2,List.append_assoc]
 rfl
theorem rd_nat (l:List Int) (i:Nat):rd l (i:Int)=l.getD i 0:=by unfold rd;rw[Int.toNat_natCast]
def xorL (a b:List Int):List Int:=List.zipWith (fun x y=>Go.bits .xor .u8 x y) a b
theorem xorL_length (a b:List Int) (h:a.length≤b.length):(xorL a b).length=a.length:=by simp[xorL];omega
theorem xorL_get (a b:List Int) (h:a.length≤b.length) (i:Nat) (hi:i<a.length):(xorL a b).getD i 0=Go.bits .xor .u8 (a.getD i 0) (b.getD i 0):=by
 simp[xorL,List.getD_eq_getElem?_getD,List.getElem?_zipWith,hi,(show i<b.length by omega)]
theorem byt_bits (o:BinOp) (a b:Int):byt (Go.bits o .u8 a b):=by
 have h:∀ n:Int,byt (IntKind.u8.wrap n):=fun n=>by rw[IntKind.wrap_u8];exact byt_mod _
 unfold Go.bits
 exact h _
theorem byt_xor (a b:List Int):∀ x ∈ xorL a b,byt x:=by
 intro x hx
 obtain ⟨i,hi,rfl⟩:=List.mem_iff_getElem.1 hx
 simp only[xorL,List.getElem_zipWith]
 exact byt_bits _ _ _
theorem octXor_l (a b:List Int) (h:a.length=b.length) (hl:a.length≤281474976710656) (d:Nat):∀ i,i+d=a.length→∀ k,octet_Xor.l0 (k+d+1) a b (pre (xorL a b) i) (a.length:Int) (i:Int)=some (xorL a b,0):=by
 have hx:=xorL_length a b (by omega)
 induction d with
 |zero=>
  intro i hi k
  obtain rfl:i=a.length:=by omega
  rw[octet_Xor.l0,if_neg (by omega),← hx,pre_all]
 |succ d ih=>
  intro i hi k
  have:=ih (i+1) (by omega) k
  rw[show ((i+1:Nat):Int)=(i:Int)+1 from by omega,← pre_set _ _ (by omega),xorL_get a b (by omega) i (by omega)] at this
  rw[show k+(d+1)+1=(k+d+1)+1 from by omega,octet_Xor.l0,if_pos (by omega),if_pos (by omega),if_pos (by omega),if_pos (by omega),if_pos (by rw[pre_length _ _ (by omega)];omega),w64 _ (by omega) (by omega),rd_nat,rd_nat,Int.toNat_natCast]
  exact this
theorem octXor_eq (a b:List Int) (h:a.length=b.length) (hl:a.length≤281474976710656) (k:Nat):octet_Xor.f (k+a.length+1) a b=some (xorL a b,0):=by
 unfold octet_Xor.f
 rw[if_pos (by omega),if_pos (by omega),if_pos (by omega),Int.toNat_natCast]
 have:=octXor_l a b h hl a.length 0 (by omega) k
 rw[pre_zero,xorL_length a b (by omega)] at this
 exact this
theorem octFill_l (x:Int) (n:Nat) (hn:n≤65536) (d:Nat):∀ i,i+d=n→∀ k,octet_Fill.l0 (k+d+1) x (pre (List.replicate n x) i) (n:Int) (i:Int)=some (List.replicate n x):=by
 induction d with
 |zero=>
  intro i hi k
  obtain rfl:i=n:=by omega
  have:=pre_all (List.replicate i x)
  rw[List.length_replicate] at this
  rw[octet_Fill.l0,if_neg (by omega),this]
 |succ d ih=>
  intro i hi k
  have:=ih (i+1) (by omega) k
  have hs:=pre_set (List.replicate n x) i (by simp;omega)
  rw[show (List.replicate n x).getD i 0=x from by rw[List.getD_eq_getElem?_getD,List.getElem?_replicate,if_pos (by omega)];rfl] at hs
  rw[show ((i+1:Nat):Int)=(i:Int)+1 from by omega,← hs] at this
  rw[show k+(d+1)+1=(k+d+1)+1 from by omega,octet_Fill.l0,if_pos (by omega),if_pos (by omega),if_pos (by rw[pre_length _ _ (by simp;omega)];simp;omega),w64 _ (by omega) (by omega),Int.toNat_natCast]
  exact this
theorem octFill_eq (x:Int) (n:Nat) (hn:n≤65536) (k:Nat):octet_Fill.f (k+n+1) x (n:Int)=some (List.replicate n x):=by
 have e1:mx 0 (mn 65536 (n:Int))=(n:Int):=by unfold mx mn;(repeat' split) <;> omega
 unfold octet_Fill.f
 rw[e1,if_pos (by omega),if_pos (by omega),Int.toNat_natCast]
 simp only[Option.bind_some,List.length_replicate]
 have:=octFill_l x n hn n 0 (by omega) k
 rw[pre_zero,List.length_replicate] at this
 exact this
theorem padded_eq (b:List Int) (hb:b.length=64) (x:Int) (k:Nat):mac_padded.f (k+80) b x=some (xorL b (List.replicate 64 x)):=by
 unfold mac_padded.f
 have h1:=octFill_eq x 64 (by decide) (k+15)
 have h2:=octXor_eq b (List.replicate 64 x) (by simp[hb]) (by omega) (k+15)
 rw[hb] at h2 ⊢
 rw[show (k+80)=k+15+64+1 from by omega,show ((64:Nat):Int)=64 from rfl] at *
 rw[h1]
 simp only[Option.bind_some]
 rw[h2]
 rfl
theorem refXor_l (a b:List Int) (h:a.length≤b.length) (hl:a.length≤1099511627776) (d:Nat):∀ i,i+d=a.length→∀ k,nepentheref01_Xor.l0 (k+d+1) a b ((xorL a b).take i) (i:Int)=some (xorL a b):=by
 have hx:=xorL_length a b h
 induction d with
 |zero=>
  intro i hi k
  obtain rfl:i=a.length:=by omega
  rw[nepentheref01_Xor.l0,if_neg (by omega),List.take_of_length_le (by omega)]
 |succ d ih=>
  intro i hi k
  have:=ih (i+1) (by omega) k
  have hg:=xorL_get a b h i (by omega)
  rw[List.getD_eq_getElem?_getD,List.getElem?_eq_getElem (by omega)] at hg
  rw[show ((i+1:Nat):Int)=(i:Int)+1 from by omega,List.take_succ_eq_append_getElem (by omega)] at this
  rw[show k+(d+1)+1=(k+d+1)+1 from by omega,nepentheref01_Xor.l0,if_pos (by omega),if_pos (by omega),if_pos (by omega),if_pos (by rw[List.length_take];omega),w64 _ (by omega) (by omega),rd_nat,rd_nat,← hg]
  exact this
theorem refXor_eq (a b:List Int) (h:a.length≤b.length) (hl:a.length≤1099511627776) (k:Nat):nepentheref01_Xor.f (k+a.length+1) a b=some (xorL a b):=
 refXor_l a b h hl a.length 0 (by omega) k
def keyL (l:List Int):List Int:=if 64<l.length then sumL l else l
theorem keyL_le (l:List Int):(keyL l).length≤64:=by
 unfold keyL
 split
 ·rw[sumL_length];decide
 omega
def blockL (l:List Int):List Int:=keyL l++List.replicate (64 - (keyL l).length) 0
theorem blockL_length (l:List Int):(blockL l).length=64:=by have:=keyL_le l;simp[blockL];omega
def innerL (B text:List Int):List Int:=xorL B (List.replicate 64 54)++text
def tagB (B text:List Int):List Int:=sumL (xorL B (List.replicate 64 92)++sumL (innerL B text))
theorem tagB_length (B text:List Int):(tagB B text).length=32:=sumL_length _
theorem byt_tag (B text:List Int):∀ x ∈ tagB B text,byt x:=byt_sum _
theorem refBlock_eq (l:List Int) (hb:∀ x ∈ l,byt x) (hl:l.length≤1099511627776) (k:Nat):nepentheref03_Block.f (k+600+l.length) l=some (blockL l):=by
 unfold nepentheref03_Block.f
 simp only[Option.bind_some,List.nil_append,List.length_nil]
 rw[if_pos (by omega)]
 have hle:=keyL_le l
 have hf:=fill_eq 0 (64 - (keyL l).length) (by omega) (k+600+l.length - (64 - (keyL l).length) - 1)
 rw[show k+600+l.length - (64 - (keyL l).length) - 1+(64 - (keyL l).length)+1=k+600+l.length from by omega] at hf
 have hw:wrap64 (64 - ((keyL l).length:Int))=((64 - (keyL l).length:Nat):Int):=by rw[w64 _ (by omega) (by omega)];omega
 by_cases h:64<l.length
 ·have hk:keyL l=sumL l:=by unfold keyL;rw[if_pos h]
  have hs:=sum_eq l hb hl (k+200)
  rw[show k+200+400+l.length=k+600+l.length from by omega] at hs
  rw[if_pos (by omega),hs]
  simp only[Option.bind_some]
  rw[hk] at hw hf
  rw[hw,hf]
  simp only[Option.bind_some]
  rw[if_pos (by rw[sumL_length];simp),blockL,hk]
 have hk:keyL l=l:=by unfold keyL;rw[if_neg h]
 rw[if_neg (by omega)]
 rw[hk] at hw hf
 rw[hw,hf]
 simp only[Option.bind_some]
 rw[if_pos (by simp;omega),blockL,hk]
theorem refTag_eq (key text:List Int) (hk:∀ x ∈ key,byt x) (ht:∀ x ∈ text,byt x) (hkl:key.length≤1000000000) (htl:text.length≤1000000000) (k:Nat):nepentheref03_Tag.f (k+2000+key.length+text.length) key text=some (tagB (blockL key) text):=by
 have hB:=blockL_length key
 unfold nepentheref03_Tag.f
 have h1:=refBlock_eq key hk (by omega) (k+1400+text.length)
 rw[show k+1400+text.length+600+key.length=k+2000+key.length+text.length from by omega] at h1
 have h2:=fill_eq 54 64 (by decide) (k+1935+key.length+text.length)
 have h3:=fill_eq 92 64 (by decide) (k+1935+key.length+text.length)
 rw[show k+1935+key.length+text.length+64+1=k+2000+key.length+text.length from by omega,show ((64:Nat):Int)=64 from rfl] at h2 h3
 have h4:=refXor_eq (blockL key) (List.replicate 64 54) (by rw[hB];simp) (by omega) (k+1935+key.length+text.length)
 have h5:=refXor_eq (blockL key) (List.replicate 64 92) (by rw[hB];simp) (by omega) (k+1935+key.length+text.length)
 rw[hB,show k+1935+key.length+text.length+64+1=k+2000+key.length+text.length from by omega] at h4 h5
 have hxl:(xorL (blockL key) (List.replicate 64 54)).length=64:=by rw[xorL_length _ _ (by rw[hB];simp),hB]
 have hyl:(xorL (blockL key) (List.replicate 64 92)).length=64:=by rw[xorL_length _ _ (by rw[hB];simp),hB]
 have hil:(innerL (blockL key) text).length=64+text.length:=by rw[innerL,List.length_append,hxl]
 have h6:=sum_eq (innerL (blockL key) text) (fun x hx=>(List.mem_append.1 hx).elim (byt_xor _ _ x) (ht x)) (by omega) (k+1536+key.length)
 rw[hil,show k+1536+key.length+400+(64+text.length)=k+2000+key.length+text.length from by omega] at h6
 have h7:=sum_eq (xorL (blockL key) (List.replicate 64 92)++sumL (innerL (blockL key) text)) (fun x hx=>(List.mem_append.1 hx).elim (byt_xor _ _ x) (byt_sum _ x)) (by rw[List.length_append,hyl,sumL_length];omega) (k+1504+key.length+text.length)
 rw[List.length_append,hyl,sumL_length,show k+1504+key.length+text.length+400+(64+32)=k+2000+key.length+text.length from by omega] at h7
 rw[h1]
 simp only[Option.bind_some]
 rw[h2]
 simp only[Option.bind_some]
 rw[h4]
 simp only[Option.bind_some]
 rw[if_pos (by rw[hxl];omega),show xorL (blockL key) (List.replicate 64 54)++text=innerL (blockL key) text from rfl,h6]
 simp only[Option.bind_some]
 rw[h3]
 simp only[Option.bind_some]
 rw[h5]
 simp only[Option.bind_some]
 rw[if_pos (by rw[hyl,sumL_length];omega),h7]
 rfl
end Go.Proofs.Ytbajioiiaamokaa.Own
namespace Go.Proofs.Ytbajioiiaamokaa.Own
open Go.RowKit Go.Proofs.Ytbajioiiaamokaa.Arr Go.Proofs.Ytbajioiiaamokaa.QB Go.Proofs.YtbajioiiaamokaaW.PrintWords Go.Proofs.YtbajioiiaamokaaW.PrintLast Go.Proofs.YtbajioiiaamokaaW.PrintMore
set_option linter.unusedVariables false
set_option linter.unusedSimpArgs false
attribute [-go_sem] Instr.build
theorem row_of_copy {w:World} {base b:Nat} {cs cs':Array Value} {l:List Int} (hb:base≤b) (ho:w.heap[b]?=some (.cells cs' 5 (0,0))) (hsz:cs'.size=64) (hl:l.length≤64)
  (hcs:∀ j,cs'[j]?=if 0≤j∧j<0+(l.map (Value.int .u8)).length∧j<cs.size then (l.map (Value.int .u8))[j - 0]? else cs[j]?) (hc:∀ j,j<64→cs[j]?=some (.int .u8 0)) (hc64:cs.size=64) :
  Kd.R (Kd.int .u8) 5 w base (fun _=>True) (.slice (some ⟨b,0,none⟩) 64 64) (l++List.replicate (64 - l.length) 0):=by
 have hlen:(l++List.replicate (64 - l.length) (0:Int)).length=64:=by simp;omega
 refine R_of_nums ⟨by rw[nums_length,Nat.mul_one],.inr ⟨b,64,cs',by rw[hlen],hb,ho,by rw[hlen];exact Nat.le_refl _,by decide,by rw[hsz],?_⟩⟩
 apply List.ext_getElem?
 intro j
 rw[hlen,List.getElem?_take,Array.getElem?_toList,hcs j,List.length_map,hc64,nums_append]
 simp only[nums]
 by_cases h1:j<l.length
 ·rw[if_pos (by omega),if_pos (by omega),List.getElem?_append_left (by rw[List.length_map];exact h1),Nat.sub_zero]
 by_cases h2:j<64
 ·rw[if_pos (by omega),if_neg (by omega),hc j h2,List.getElem?_append_right (by rw[List.length_map];omega),List.length_map,List.map_replicate,List.getElem?_replicate,if_pos (by omega)]
 rw[if_neg (by omega),List.getElem?_eq_none (by simp;omega)]
set_option maxHeartbeats 2000000 in
set_option maxRecDepth 100000 in
theorem block_any (A0:Option Addr) (c0:Nat) (l0:List Int) (w:World) (hr0:Kd.C (Kd.int .u8) w A0 l0.length l0) (hlen:l0.length≤1099511627776) :
  Calls Try.prog 84 #[.slice A0 l0.length c0] w fun e w'=>∃ v0_:Value,e=.returned v0_∧Kd.R (Kd.int .u8) 5 w' w.heap.size (fun _=>True) v0_ (blockL l0)∧Below w.heap.size w w':=by
 have hmk:∀ W:World,(Instr.makeSlice 23 (.int .i64 64) (.int .i64 64)).run Try.prog W=.ok (.slice (some ⟨W.heap.size,0,none⟩) 64 64) (W.alloc (.cells (madeCells #[Value.int IntKind.u8 0] 64) 5)):=run_make_row' (P:=Try.prog) 23 5 (.int .u8 0) 1 Try.underlying23 info5 rfl .i64 .i64 64 (by omega) (by omega)
 have hmz:(madeCells #[Value.int IntKind.u8 0] 64).size=64:=by simp[madeCells]
 have hm0:∀ j,j<64→(madeCells #[Value.int IntKind.u8 0] 64)[j]?=some (.int .u8 0):=by
  intro j hj
  simp[madeCells,hj,Nat.mod_one]
 generalize madeCells #[Value.int IntKind.u8 0] 64=mc at hmk hmz hm0
 have hmz':=Lib.hid hmz
 have hm0':=Lib.hid hm0
 have hr0':=Lib.hid hr0
 have hlen':=Lib.hid hlen
 clear hmz hm0 hr0 hlen
 by_cases h64:64<l0.length
 ·have h64i:((64:Int)<(l0.length:Int))=True:=eq_true (by omega)
  have hB:blockL l0=sumL l0++List.replicate (64 - (sumL l0).length) 0:=by rw[blockL,keyL,if_pos h64]
  have hsl:=sumL_length l0
  have hsum:∀ w1,Kd.C (Kd.int .u8) w1 A0 l0.length l0→_:=fun w1 h=>shaSum_any A0 c0 l0 w1 h hlen'.out
  obtain ⟨D,hD⟩:∃ D,D=sumL l0:=⟨_,rfl⟩
  rw[← hD] at hB hsl hsum
  have hB':=Lib.hid hB
  have hsl':=Lib.hid hsl
  have hsum':=Lib.hid hsum
  clear hB hsl hsum hD h64
  go_enter Try.func84,Try.ntmps84
  go_wp2_with (first | (go_at_call 95;refine (hsum'.out _ hr0'.out).mono ?_;rintro e w1 ⟨v,rfl,hR,hb⟩;obtain ⟨Ad,cd,rfl⟩:=Kd.R_slice hR;have hC:=Lib.hid (Kd.R_reads' hR).2.2;have hb1:=Lib.hid hb;clear hR hb) | (refine wpList_copy_run rfl (.tmp 10) (.tmp 11) 23 23 rfl (.slice (some ⟨w1.heap.size,0,none⟩) 64 64) (.slice Ad D.length cd) rfl rfl (copy_bytes' 3 w1.heap.size 64 (Kd.C_alloc hC.out _) (cs:=mc) (t:=5) (heap_at _ _ _ rfl) (by rw[hmz'.out,hsl'.out];decide) 64 (by rw[hsl'.out];decide)) ?_;obtain ⟨cs1,hob,hsz,hcs⟩:=setCells_heap (D.map (Value.int .u8)) 0 (w1.alloc (.cells mc 5)) mc 5 (heap_at _ _ w1.heap.size rfl);have hbw:=Lib.hid (((hb1.out.alloc hb1.out.size (.cells mc 5)).trans (((Chg.refl w1.heap.size (w1.alloc (.cells mc 5))).setCells 0 (D.map (Value.int .u8))).below hb1.out.size (by have:=hb1.out.size;simp;omega))));generalize hw1:(w1.alloc (.cells mc 5)).setCells w1.heap.size 0 (D.map (Value.int .u8))=w2 at hob hbw;have hob1:=Lib.hid hob;have hsz1:=Lib.hid hsz;have hcs1:=Lib.hid hcs;clear hob hsz hcs hw1))
  go_ret
  refine ⟨_,rfl,?_,hbw.out⟩
  rw[hB'.out]
  exact row_of_copy hb1.out.size hob1.out (by rw[hsz1.out,hmz'.out]) (by rw[hsl'.out];decide) hcs1.out hm0'.out hmz'.out
 have h64i:((64:Int)<(l0.length:Int))=False:=eq_false (by omega)
 have hB:blockL l0=l0++List.replicate (64 - l0.length) 0:=by rw[blockL,keyL,if_neg h64]
 have hB':=Lib.hid hB
 have hle:=Lib.hid (show l0.length≤64 by omega)
 clear hB h64
 go_enter Try.func84,Try.ntmps84
 go_wp2_with (refine wpList_copy_run rfl (.tmp 10) (.tmp 11) 23 23 rfl (.slice (some ⟨w.heap.size,0,none⟩) 64 64) (.slice A0 l0.length c0) rfl rfl (copy_bytes' 3 w.heap.size 64 (Kd.C_alloc hr0'.out _) (cs:=mc) (t:=5) (heap_at _ _ _ rfl) (by rw[hmz'.out];exact hle.out) 64 hle.out) ?_;obtain ⟨cs1,hob,hsz,hcs⟩:=setCells_heap (l0.map (Value.int .u8)) 0 (w.alloc (.cells mc 5)) mc 5 (heap_at _ _ w.heap.size rfl);have hbw:=Lib.hid ((((Below.refl w.heap.size w).alloc (Nat.le_refl _) (.cells mc 5)).trans (((Chg.refl w.heap.size (w.alloc (.cells mc 5))).setCells 0 (l0.map (Value.int .u8))).below (Nat.le_refl _) (by simp))));generalize hw1:(w.alloc (.cells mc 5)).setCells w.heap.size 0 (l0.map (Value.int .u8))=w2 at hob hbw;have hob1:=Lib.hid hob;have hsz1:=Lib.hid hsz;have hcs1:=Lib.hid hcs;clear hob hsz hcs hw1)
 go_ret
 refine ⟨_,rfl,?_,hbw.out⟩
 rw[hB'.out]
 exact row_of_copy (Nat.le_refl _) hob1.out (by rw[hsz1.out,hmz'.out]) hle.out hcs1.out hm0'.out hmz'.out
end Go.Proofs.Ytbajioiiaamokaa.Own
namespace Go.Proofs.Ytbajioiiaamokaa.Own
open Go.RowKit Go.Proofs.Ytbajioiiaamokaa.Arr Go.Proofs.Ytbajioiiaamokaa.QB Go.Proofs.YtbajioiiaamokaaW.PrintWords Go.Proofs.YtbajioiiaamokaaW.PrintLast Go.Proofs.YtbajioiiaamokaaW.PrintMore
set_option linter.unusedVariables false
set_option linter.unusedSimpArgs false
attribute [-go_sem] Instr.build
theorem builtK (A:Option Addr) (n c:Nat):Try.prog.built 127 (#[(0,.slice A n c)]:Array (Nat × Value)).toList=some #[.slice A n c]:=by kernel_rfl
def KeyAt (w:World) (g:Nat) (B:List Int):Prop:=∃ A c,B.length=64∧64≤c∧w.heap[g]?=some (.cells #[.slice A 64 c] 127 (0,0))∧Kd.C (Kd.int .u8) w A 64 B
theorem KeyAt.below {w w':World} {g:Nat} {B:List Int} (h:KeyAt w g B) (hb:Below w.heap.size w w'):KeyAt w' g B:=by
 obtain ⟨A,c,h1,h2,h3,h4⟩:=h
 exact ⟨A,c,h1,h2,heap_below h3 hb,Kd.C_below h4 hb⟩
set_option maxHeartbeats 2000000 in
set_option maxRecDepth 100000 in
theorem newKey_any (A0:Option Addr) (c0:Nat) (l0:List Int) (w:World) (hr0:Kd.C (Kd.int .u8) w A0 l0.length l0) (hlen:l0.length≤1099511627776) :
  Calls Try.prog 70 #[.slice A0 l0.length c0] w fun e w'=>∃ g,e=.returned (.pointer (some ⟨g,0,none⟩))∧w.heap.size≤g∧KeyAt w' g (blockL l0)∧Below w.heap.size w w':=by
 have hbl:=blockL_length l0
 have hblk:=block_any A0 c0 l0 w hr0 hlen
 obtain ⟨D,hD⟩:∃ D,D=blockL l0:=⟨_,rfl⟩
 rw[← hD] at hbl hblk ⊢
 have hbl':=Lib.hid hbl
 have hblk':=Lib.hid hblk
 have hbu:∀ (A:Option Addr) (n c:Nat) (W:World),(Instr.build 127 #[(0,.slice A n c)]).run Try.prog W=.ok (.agg #[.slice A n c]) W:=fun A n c W=>run_build W _ _ _ (builtK A n c)
 clear hr0 hlen hbl hblk hD
 go_enter Try.func70,Try.ntmps70
 go_wp2_with (go_at_call 84;refine hblk'.out.mono ?_;rintro e w1 ⟨v,rfl,hR,hb⟩;obtain ⟨Ad,cd,rfl⟩:=Kd.R_slice hR;have hC:=Lib.hid (Kd.R_reads' hR).2.2;have hcd:=Lib.hid (Kd.R_reads' hR).2.1;have hb1:=Lib.hid hb;clear hR hb)
 go_ret
 refine ⟨w1.heap.size,rfl,hb1.out.size,⟨Ad,cd,hbl'.out,by have:=hcd.out;rw[hbl'.out] at this;exact this,?_,?_⟩,hb1.out.alloc hb1.out.size _⟩
 ·rw[← hbl'.out];exact heap_at _ _ _ rfl
 have hc:=hC.out;rw[hbl'.out] at hc;exact Kd.C_alloc hc _
def Owns (w:World) (kv:Value) (B:List Int):Prop:=∀ w1,Below w.heap.size w w1→Calls Try.prog 85 #[kv] w1 fun e w'=>∃ A c,e=.returned (.slice A 64 c)∧64≤c∧Kd.C (Kd.int .u8) w' A 64 B∧Below w1.heap.size w1 w'
set_option maxHeartbeats 2000000 in
set_option maxRecDepth 100000 in
theorem own_key (w:World) (g:Nat) (B:List Int) (h:KeyAt w g B):Owns w (.pointer (some ⟨g,0,none⟩)) B:=by
 intro w1 hb
 obtain ⟨A,c,h1,h2,h3,h4⟩:=h.below hb
 have hc0:w1.cell? ⟨g,0,none⟩=some (.slice A 64 c):=by rw[cell_of_row w1 g 0 _ _ _ h3];rfl
 have h4':=Lib.hid h4
 have h2':=Lib.hid h2
 have h64:((64:Int) != 64)=false:=rfl
 clear h h1 h2 h3 h4 hb
 go_enter Try.func85,Try.ntmps85
 go_wp2
 go_ret
 exact ⟨A,c,rfl,h2'.out,h4'.out,Below.refl _ _⟩
set_option maxHeartbeats 2000000 in
set_option maxRecDepth 100000 in
theorem own_nil (w:World):Owns w (.pointer none) (blockL []):=by
 intro w1 hb
 have hblk:=block_any none 0 [] w1 (C_of_readsInt ⟨rfl,by simp,fun h=>absurd h (by simp)⟩) (by simp)
 have hbl:=blockL_length []
 obtain ⟨D,hD⟩:∃ D,D=blockL []:=⟨_,rfl⟩
 rw[← hD] at hblk hbl ⊢
 rw[List.length_nil] at hblk
 have hblk':=Lib.hid hblk
 have hbl':=Lib.hid hbl
 clear hb hblk hD hbl
 go_enter Try.func85,Try.ntmps85
 go_wp2_with (go_at_call 84;refine hblk'.out.mono ?_;rintro e w2 ⟨v,rfl,hR,hb⟩;obtain ⟨Ad,cd,rfl⟩:=Kd.R_slice hR;have hC:=Lib.hid (Kd.R_reads' hR).2.2;have hcd:=Lib.hid (Kd.R_reads' hR).2.1;have hb1:=Lib.hid hb;clear hR hb)
 go_ret
 have hc:=hC.out
 have hcd':=hcd.out
 rw[hbl'.out] at hc hcd'
 exact ⟨Ad,cd,by rw[← hbl'.out];rfl,hcd',hc,hb1.out⟩
end Go.Proofs.Ytbajioiiaamokaa.Own
namespace Go.Proofs.Ytbajioiiaamokaa.Own
open Go.RowKit Go.Proofs.Ytbajioiiaamokaa.Arr Go.Proofs.Ytbajioiiaamokaa.QB Go.Proofs.YtbajioiiaamokaaW.PrintWords Go.Proofs.YtbajioiiaamokaaW.PrintLast Go.Proofs.YtbajioiiaamokaaW.PrintMore
set_option linter.unusedVariables false
set_option linter.unusedSimpArgs false
theorem CC_row {e:Nat} {w:World} {A:Option Addr} {n:Nat} {ls:List (List Int)} (h:Kd.C (Kd.slice e (Kd.int .u8)) w A n ls) (hn:0<n) :
  ∃ b o,A=some ⟨b,o,none⟩∧∀ j,j<n→∃ Aj cj,w.cell? ⟨b,o+j,none⟩=some (.slice Aj (ls.getD j []).length cj)∧(ls.getD j []).length≤cj∧Kd.C (Kd.int .u8) w Aj (ls.getD j []).length (ls.getD j []):=by
 have hg:∀ j,j<n→∃ ad Aj cj,A=some ad∧w.cell? (ad.add j)=some (.slice Aj (ls.getD j []).length cj)∧(ls.getD j []).length≤cj∧Kd.C (Kd.int .u8) w Aj (ls.getD j []).length (ls.getD j []):=by
  intro j hj
  obtain ⟨ad,c,hA,_,⟨Aj,cj,rfl,hc,hC⟩,hcell⟩:=Kd.C_get h [] (j:Int) (by omega) (by omega)
  have:=hcell 0 _ rfl
  rw[Int.toNat_natCast] at this hc hC
  refine ⟨ad,Aj,cj,hA,?_,hc,hC⟩
  have e1:j*(Kd.slice e (Kd.int .u8)).sz+0=j:=by show j*1+0=j;omega
  rw[e1] at this
  exact this
 obtain ⟨ad,A0,c0,rfl,h0,_⟩:=hg 0 hn
 obtain ⟨b,o,s⟩:=ad
 have hs:s=none:=by
  cases s with
  |none=>rfl
  |some s=>
   simp[Addr.add,World.cell?] at h0
   split at h0 <;> simp at h0
 subst hs
 refine ⟨b,o,rfl,fun j hj=>?_⟩
 obtain ⟨ad,Aj,cj,he,hc,h1,h2⟩:=hg j hj
 obtain rfl:=Option.some.inj he
 rw[Addr.add_mid] at hc
 exact ⟨Aj,cj,hc,h1,h2⟩
theorem HashOf.lt {w:World} {g:Nat} {L:List Int} (h:HashOf w g L):g<w.heap.size:=by
 obtain ⟨A,c,h⟩:=h;exact lt_of_heap h.obj
theorem Rd.fresh {w1:World} {g base e:Nat} {ok:Nat→Prop} {A:Option Addr} {c:Nat} {l:List Int} (h:Kd.R (Kd.int .u8) e w1 base ok (.slice A l.length c) l) (hg:g<base):Rd w1 g A l:=
 Rd.ofC (Kd.R_reads' h).2.2 (fun ad e1=>by
  subst e1
  have:=Kd.R_base h ad.block rfl
  omega)
theorem flat_take (ls:List (List Int)) (k:Nat) (h:k<ls.length):(ls.take (k+1)).flatten=(ls.take k).flatten++ls.getD k []:=by
 rw[List.take_succ_eq_append_getElem h,List.flatten_append,List.getD_eq_getElem?_getD,List.getElem?_eq_getElem h]
 simp
theorem flat_le (ls:List (List Int)) (k:Nat):(ls.take k).flatten.length≤ls.flatten.length:=by
 have:=congrArg List.length (congrArg List.flatten (List.take_append_drop k ls))
 rw[List.flatten_append,List.length_append] at this
 omega
theorem pad_any' (x:Int) (B X:List Int) (hB:B.length=64) (h:mac_padded.f 80 B x=some X) (w:World) (A:Option Addr) (c:Nat) (hc:64≤c) (hC:Kd.C (Kd.int .u8) w A 64 B) :
  Calls Try.prog 88 #[.slice A 64 c,.int .u8 x] w fun e w'=>∃ v0_:Value,e=.returned v0_∧Kd.R (Kd.int .u8) 5 w' w.heap.size (fun _=>True) v0_ X∧Below w.heap.size w w':=by
 have:=mac_padded.calls 80 A c B x X w (by rw[hB];exact hC) (by rw[hB];exact hc) h
 rw[hB] at this
 exact this
set_option maxHeartbeats 4000000 in
set_option maxRecDepth 100000 in
theorem tag_any (w:World) (kv:Value) (B:List Int) (hB:B.length=64) (hown:Owns w kv B) (A0:Option Addr) (c0:Nat) (ls:List (List Int)) (e0:Nat) (hr:Kd.C (Kd.slice e0 (Kd.int .u8)) w A0 ls.length ls) (hlen:ls.flatten.length≤1000000000) :
  Calls Try.prog 71 #[kv,.slice A0 ls.length c0] w fun e w'=>∃ v0_:Value,e=.returned v0_∧Kd.R (Kd.int .u8) 5 w' w.heap.size (fun _=>True) v0_ (tagB B ls.flatten)∧Below w.heap.size w w':=by
 have hp1:=padded_eq B hB 54 0
 have hp2:=padded_eq B hB 92 0
 have hXl:(xorL B (List.replicate 64 54)).length=64:=by rw[xorL_length _ _ (by rw[hB];simp),hB]
 have hYl:(xorL B (List.replicate 64 92)).length=64:=by rw[xorL_length _ _ (by rw[hB];simp),hB]
 obtain ⟨X,hX⟩:∃ X,X=xorL B (List.replicate 64 54):=⟨_,rfl⟩
 obtain ⟨Y,hY⟩:∃ Y,Y=xorL B (List.replicate 64 92):=⟨_,rfl⟩
 have hres:tagB B ls.flatten=sumL (Y++sumL (X++ls.flatten)):=by rw[tagB,innerL,hX,hY]
 rw[hres]
 rw[← hX] at hp1 hXl
 rw[← hY] at hp2 hYl
 have hisum:∀ w1 g,HashOf w1 g (X++ls.flatten)→Calls Try.prog 89 #[.pointer (some ⟨g,0,none⟩)] w1 fun e w'=>∃ v0_:Value,e=.returned v0_∧Kd.R (Kd.int .u8) 5 w' w1.heap.size (fun _=>True) v0_ (sumL (X++ls.flatten))∧Below w1.heap.size w1 w':=fun w1 g h=>sum_of w1 g _ h (by rw[List.length_append,hXl];omega)
 have hIl:(sumL (X++ls.flatten)).length=32:=sumL_length _
 obtain ⟨I,hI⟩:∃ I,I=sumL (X++ls.flatten):=⟨_,rfl⟩
 rw[← hI] at hisum hIl ⊢
 have hosum:∀ w1 g,HashOf w1 g (Y++I)→Calls Try.prog 89 #[.pointer (some ⟨g,0,none⟩)] w1 fun e w'=>∃ v0_:Value,e=.returned v0_∧Kd.R (Kd.int .u8) 5 w' w1.heap.size (fun _=>True) v0_ (sumL (Y++I))∧Below w1.heap.size w1 w':=fun w1 g h=>sum_of w1 g _ h (by rw[List.length_append,hYl,hIl];decide)
 obtain ⟨D,hD⟩:∃ D,D=sumL (Y++I):=⟨_,rfl⟩
 rw[← hD] at hosum ⊢
 have hp1':=Lib.hid hp1
 have hp2':=Lib.hid hp2
 have hXl':=Lib.hid hXl
 have hYl':=Lib.hid hYl
 have hIl':=Lib.hid hIl
 have hisum':=Lib.hid hisum
 have hosum':=Lib.hid hosum
 have hown':=Lib.hid hown
 have hr':=Lib.hid hr
 have hlen':=Lib.hid hlen
 have hB':=Lib.hid hB
 have hm':=Lib.hid (show ls.length≤9223372036854775807 from hr.2.1)
 clear hp1 hp2 hXl hYl hIl hisum hosum hown hr hlen hB hX hY hI hD hres
 go_enter Try.func71,Try.ntmps71
 go_wp2_with (first
  |(go_at_call 85;refine (hown'.out _ (Below.refl _ _)).mono ?_;rintro e w1 ⟨Ab,cb,rfl,hcb,hCb,hb⟩;have hcb1:=Lib.hid hcb;have hCb1:=Lib.hid hCb;have hb1:=Lib.hid hb;clear hcb hCb hb)
  |(go_at_call 86;refine (new_of _).mono ?_;rintro e w2 ⟨g,rfl,hg,hh,hb⟩;have hg2:=Lib.hid hg;have hh2:=Lib.hid hh;have hb2:=Lib.hid hb;clear hg hh hb)
  |(go_at_call 88;refine (pad_any' 54 B X hB'.out hp1'.out _ Ab cb hcb1.out (Kd.C_below hCb1.out hb2.out)).mono ?_;rintro e w3 ⟨v3,rfl,hR,hb⟩;obtain ⟨Ap,cp,rfl⟩:=Kd.R_slice hR;have hR3:=Lib.hid hR;have hb3:=Lib.hid hb;clear hR hb)
  |(go_at_call 87;refine (write_of _ g [] (hh2.out.below hb3.out) Ap cp X (Rd.fresh hR3.out hh2.out.lt) (by rw[hXl'.out];decide)).mono ?_;rintro e w4 ⟨rfl,hh,hch⟩;have hh4:=Lib.hid hh;have hch4:=Lib.hid hch;clear hh hch))
 have hbw:=Lib.hid ((hb1.out.trans (hb2.out.mono hb1.out.size)).trans ((hb3.out.mono (Nat.le_trans hb1.out.size hb2.out.size)).trans (hch4.out.below (B:=w.heap.size) (Nat.le_trans hb1.out.size hg2.out) (Nat.le_trans hb1.out.size (Nat.le_trans hb2.out.size hb3.out.size)))))
 have hgw:=Lib.hid (Nat.le_trans hb1.out.size hg2.out)
 have hrb:=Lib.hid (((Rd.old (l:=B) (by rw[hB'.out];exact hCb1.out) hg2.out).keep (Chg.of_below hb2.out)).keep ((Chg.of_below hb3.out).trans hch4.out))
 clear hch4 hR3 hb3 hb2 hh2 hg2 hCb1 hb1
 go_loopw [19] (fun i wr=>∃ k:Nat,k≤ls.length∧i=.int .i64 k∧HashOf wr g (X++(ls.take k).flatten)∧Rd wr g Ab B∧Below w.heap.size w wr) (fun i _=>ls.length - (intOf i).toNat)
 case atStart=>exact ⟨0,Nat.zero_le _,rfl,by rw[List.take_zero,List.flatten_nil,List.append_nil];exact hh4.out,hrb.out,hbw.out⟩
 case round=>
  obtain ⟨k,hk,rfl,hh,hb4,hbr⟩:=hrel
  have hh':=Lib.hid hh
  have hb4':=Lib.hid hb4
  have hbr':=Lib.hid hbr
  clear hh hb4 hbr hh4 hrb hbw
  have hm:=hm'.out
  by_cases hlt:k<ls.length
  ·obtain ⟨b,o,rfl,hrow⟩:=CC_row hr'.out (by omega)
   obtain ⟨Aj,cj,hcell,hcj,hCj⟩:=hrow k hlt
   have hcell':=pw_cell_below hbr'.out hcell
   have hft:=flat_take ls k hlt
   have hfl:=flat_le ls (k+1)
   rw[hft,List.length_append] at hfl
   obtain ⟨F,hF⟩:∃ F,F=(ls.take k).flatten:=⟨_,rfl⟩
   obtain ⟨lj,hlj⟩:∃ lj,lj=ls.getD k []:=⟨_,rfl⟩
   rw[← hlj] at hcell' hCj hft hfl
   rw[← hF] at hft hfl hh'
   have hft':=Lib.hid hft
   have hfl':=Lib.hid hfl
   have hRj:=Lib.hid ((Rd.old hCj hgw.out).keep (Chg.of_below hbr'.out))
   clear hrow hcell hcj hft hfl hF hlj hCj
   go_wp2_with (go_at_call 87;refine (write_of _ g (X++F) hh'.out Aj cj lj hRj.out (by rw[List.length_append,hXl'.out];have:=hfl'.out;have:=hlen'.out;omega)).mono ?_;rintro e w5 ⟨rfl,hh,hch⟩;have hh5:=Lib.hid hh;have hch5:=Lib.hid hch;clear hh hch)
   go_roundw
   case rel=>exact ⟨k+1,by omega,by go_num,by rw[hft'.out,← List.append_assoc];exact hh5.out,hb4'.out.keep hch5.out,hbr'.out.trans (hch5.out.below hgw.out hbr'.out.size)⟩
   case measure=>simp[intOf];omega
  obtain rfl:k=ls.length:=by omega
  rw[List.take_of_length_le (Nat.le_refl _)] at hh'
  go_wp2_with (first
   |(go_at_call 86;refine (new_of _).mono ?_;rintro e w5 ⟨g2,rfl,hg,hh,hb⟩;have hg5:=Lib.hid hg;have hh5:=Lib.hid hh;have hb5:=Lib.hid hb;clear hg hh hb)
   |(go_at_call 88;refine (pad_any' 92 B Y hB'.out hp2'.out _ Ab cb hcb1.out (by have:=(hb4'.out.keep (Chg.of_below (g:=g) hb5.out)).toC;rw[hB'.out] at this;exact this)).mono ?_;rintro e w6 ⟨v6,rfl,hR,hb⟩;obtain ⟨Aq,cq,rfl⟩:=Kd.R_slice hR;have hR6:=Lib.hid hR;have hb6:=Lib.hid hb;clear hR hb)
   |(go_at_call 87;refine (write_of _ g2 [] (hh5.out.below hb6.out) Aq cq Y (Rd.fresh hR6.out hh5.out.lt) (by rw[hYl'.out];decide)).mono ?_;rintro e w7 ⟨rfl,hh,hch⟩;have hh7:=Lib.hid hh;have hb7:=Lib.hid (hb5.out.trans ((hb6.out.mono hb5.out.size).trans (hch.below (B:=wr.heap.size) hg5.out (Nat.le_trans hb5.out.size hb6.out.size))));clear hR6 hh hch hh5 hb5 hb6)
   |(go_at_call 89;refine (hisum'.out _ g (hh'.out.below hb7.out)).mono ?_;rintro e w8 ⟨v8,rfl,hR,hb⟩;obtain ⟨Ai,ci,rfl⟩:=Kd.R_slice hR;have hR8:=Lib.hid hR;have hb8:=Lib.hid hb;clear hR hb hh')
   |(go_at_call 87;refine (write_of _ g2 Y (hh7.out.below hb8.out) Ai ci I (Rd.fresh hR8.out hh7.out.lt) (by rw[hYl'.out,hIl'.out];decide)).mono ?_;rintro e w9 ⟨rfl,hh,hch⟩;have hh9:=Lib.hid hh;have hb9:=Lib.hid (hb7.out.trans ((hb8.out.mono hb7.out.size).trans (hch.below (B:=wr.heap.size) hg5.out (Nat.le_trans hb7.out.size hb8.out.size))));clear hh hch hR8 hb7 hb8)
   |(go_at_call 89;refine (hosum'.out _ g2 hh9.out).mono ?_;rintro e w10 ⟨v10,rfl,hR,hb⟩;have hR10:=Lib.hid hR;have hb10:=Lib.hid hb;clear hR hb))
  go_ret
  exact ⟨_,rfl,Kd.R_lower hR10.out (Nat.le_trans hbr'.out.size hb9.out.size),(hbr'.out.trans (hb9.out.mono hbr'.out.size)).trans (hb10.out.mono (Nat.le_trans hbr'.out.size hb9.out.size))⟩
end Go.Proofs.Ytbajioiiaamokaa.Own
