/- Mb2, pruned (slim.py). -/
import Derived.Test.YtbajioiiaamokaaZB21
import Derived.Lib.SlBytesConst
namespace Go.Proofs.Ytbajioiiaamokaa.Own
open Go.RowKit Go.Proofs.Ytbajioiiaamokaa.Arr Go.Proofs.Ytbajioiiaamokaa.QB Go.Proofs.YtbajioiiaamokaaW.PrintWords Go.Proofs.YtbajioiiaamokaaW.PrintLast Go.Proofs.YtbajioiiaamokaaW.PrintMore
set_option linter.unusedVariables false
set_option linter.unusedSimpArgs false
theorem byt_bv {x:Int} (h:byt x):∃ v:BitVec 8,x=(v.toNat:Int):=by
 obtain ⟨n,rfl⟩:=Int.eq_ofNat_of_zero_le h.1
 exact ⟨BitVec.ofNat 8 n,by have:=h.2;simp;omega⟩
theorem ofInt_bv (a:BitVec 8):BitVec.ofInt 8 (a.toNat:Int)=a:=by rw[BitVec.ofInt_natCast,BitVec.ofNat_toNat,BitVec.setWidth_eq]
theorem wrap_bv (v:BitVec 8):IntKind.u8.wrap (v.toNat:Int)=(v.toNat:Int):=by
 have:=v.isLt
 rw[IntKind.wrap_u8];omega
theorem xor_bv (a b:BitVec 8):Go.bits .xor .u8 (a.toNat:Int) (b.toNat:Int)=((a ^^^ b).toNat:Int):=by
 have e:Go.bits .xor .u8 (a.toNat:Int) (b.toNat:Int)=IntKind.u8.wrap (((BitVec.ofInt 8 (a.toNat:Int)) ^^^ (BitVec.ofInt 8 (b.toNat:Int))).toNat:Int):=rfl
 rw[e,ofInt_bv,ofInt_bv,wrap_bv]
theorem or_bv (a b:BitVec 8):Go.bits .or .u8 (a.toNat:Int) (b.toNat:Int)=((a ||| b).toNat:Int):=by
 have e:Go.bits .or .u8 (a.toNat:Int) (b.toNat:Int)=IntKind.u8.wrap (((BitVec.ofInt 8 (a.toNat:Int)) ||| (BitVec.ofInt 8 (b.toNat:Int))).toNat:Int):=rfl
 rw[e,ofInt_bv,ofInt_bv,wrap_bv]
theorem or_xor_zero {x a b:Int} (hx:byt x) (ha:byt a) (hb:byt b):Go.bits .or .u8 x (Go.bits .xor .u8 a b)=0↔x=0∧a=b:=by
 obtain ⟨x,rfl⟩:=byt_bv hx
 obtain ⟨a,rfl⟩:=byt_bv ha
 obtain ⟨b,rfl⟩:=byt_bv hb
 rw[xor_bv,or_bv]
 have z:∀ v:BitVec 8,((v.toNat:Int)=0)↔v=0#8:=fun v=>⟨fun h=>BitVec.eq_of_toNat_eq (by simp;omega),fun h=>by rw[h];rfl⟩
 rw[z,z,BitVec.or_eq_zero_iff,BitVec.xor_eq_zero_iff]
 exact ⟨fun h=>⟨h.1,by rw[h.2]⟩,fun h=>⟨h.1,BitVec.eq_of_toNat_eq (by have:=h.2;omega)⟩⟩
theorem drop_cons (a:List Int) (i:Nat) (h:i<a.length):a.drop i=a.getD i 0 :: a.drop (i+1):=by
 rw[List.drop_eq_getElem_cons h,List.getD_eq_getElem?_getD,List.getElem?_eq_getElem h];rfl
theorem byt_getD {a:List Int} (h:∀ x ∈ a,byt x) (i:Nat):byt (a.getD i 0):=by
 rw[List.getD_eq_getElem?_getD]
 by_cases hi:i<a.length
 ·rw[List.getElem?_eq_getElem hi];exact h _ (List.getElem_mem hi)
 rw[List.getElem?_eq_none (by omega)];exact ⟨by decide,by decide⟩
theorem octSame_l (a b:List Int) (h:a.length=b.length) (hl:a.length≤281474976710656) (ha:∀ x ∈ a,byt x) (hb:∀ x ∈ b,byt x) (d:Nat):∀ i,i+d=a.length→∀ k u,byt u→octet_Same.l0 (k+d+1) a b u (a.length:Int) (i:Int)=some (decide (u=0∧a.drop i=b.drop i)):=by
 induction d with
 |zero=>
  intro i hi k u hu
  rw[octet_Same.l0,if_neg (by omega),List.drop_eq_nil_of_le (by omega),List.drop_eq_nil_of_le (by omega)]
  by_cases h0:u=0 <;> simp[h0]
 |succ d ih=>
  intro i hi k u hu
  have:=ih (i+1) (by omega) k (Go.bits .or .u8 u (Go.bits .xor .u8 (a.getD i 0) (b.getD i 0))) (byt_bits _ _ _)
  rw[show ((i+1:Nat):Int)=(i:Int)+1 from by omega] at this
  rw[show k+(d+1)+1=(k+d+1)+1 from by omega,octet_Same.l0,if_pos (by omega),if_pos (by omega),if_pos (by omega),if_pos (by omega),w64 _ (by omega) (by omega),rd_nat,rd_nat,this]
  congr 1
  rw[decide_eq_decide,or_xor_zero hu (byt_getD ha i) (byt_getD hb i),drop_cons a i (by omega),drop_cons b i (by omega),List.cons.injEq,and_assoc]
theorem octSame_eq (a b:List Int) (hl:a.length≤281474976710656) (ha:∀ x ∈ a,byt x) (hb:∀ x ∈ b,byt x) (k:Nat):octet_Same.f (k+a.length+1) a b=some (decide (a=b)):=by
 unfold octet_Same.f
 by_cases h:a.length=b.length
 ·rw[if_pos (by omega)]
  have:=octSame_l a b h hl ha hb a.length 0 (by omega) k 0 ⟨by decide,by decide⟩
  rw[List.drop_zero,List.drop_zero] at this
  rw[show ((0:Nat):Int)=0 from rfl] at this
  rw[this]
  simp
 rw[if_neg (by omega)]
 congr 1
 exact (decide_eq_false (fun e=>h (by rw[e]))).symm
theorem same_dec_l (a b:List Int) (h:a.length=b.length) (hl:a.length≤281474976710656) (d:Nat):∀ i,i+d=a.length→∀ k,nepentheref01_SameBytes.l0 (k+d+1) a b (i:Int)=some (decide (a.drop i=b.drop i)):=by
 induction d with
 |zero=>
  intro i hi k
  rw[nepentheref01_SameBytes.l0,if_neg (by omega),List.drop_eq_nil_of_le (by omega),List.drop_eq_nil_of_le (by omega)]
  simp
 |succ d ih=>
  intro i hi k
  have:=ih (i+1) (by omega) k
  rw[show ((i+1:Nat):Int)=(i:Int)+1 from by omega] at this
  rw[show k+(d+1)+1=(k+d+1)+1 from by omega,nepentheref01_SameBytes.l0,if_pos (by omega),if_pos (by omega),if_pos (by omega),w64 _ (by omega) (by omega),rd_nat,rd_nat,this,drop_cons a i (by omega),drop_cons b i (by omega)]
  by_cases e:a.getD i 0=b.getD i 0
  ·rw[if_pos e,e];simp
  rw[if_neg e,decide_eq_false (fun h=>e (List.cons.inj h).1)]
theorem same_dec (a b:List Int) (hl:a.length≤281474976710656) (k:Nat):nepentheref01_SameBytes.f (k+a.length+1) a b=some (decide (a=b)):=by
 unfold nepentheref01_SameBytes.f
 by_cases h:a.length=b.length
 ·rw[if_pos (by omega)]
  have:=same_dec_l a b h hl a.length 0 (by omega) k
  rw[List.drop_zero,List.drop_zero] at this
  exact this
 rw[if_neg (by omega)]
 congr 1
 exact (decide_eq_false (fun e=>h (by rw[e]))).symm
theorem CC_block {e g:Nat} {t:TypeId} {fr:Nat × Nat} {w:World} {cs:Array Value} {ls:List (List Int)} (hb:w.heap[g]?=some (.cells cs t fr)) (hm:ls.length≤9223372036854775807)
  (h:∀ j,j<ls.length→∃ A c,cs[j]?=some (.slice A (ls.getD j []).length c)∧(ls.getD j []).length≤c∧Kd.C (Kd.int .u8) w A (ls.getD j []).length (ls.getD j [])):Kd.C (Kd.slice e (Kd.int .u8)) w (some ⟨g,0,none⟩) ls.length ls:=by
 refine ⟨rfl,hm,fun _=>⟨_,rfl,fun j p hj=>?_⟩⟩
 obtain ⟨hjl,rfl⟩:=List.getElem?_eq_some_iff.1 hj
 obtain ⟨A,c,hc,h1,h2⟩:=h j hjl
 have e1:ls.getD j []=ls[j]:=by rw[List.getD_eq_getElem?_getD,List.getElem?_eq_getElem hjl];rfl
 rw[e1] at hc h1 h2
 refine ⟨[.slice A ls[j].length c],rfl,⟨A,c,rfl,h1,h2⟩,fun i u hu=>?_⟩
 have hi:i=0:=by
  cases i with
  |zero=>rfl
  |succ i=>simp at hu
 subst hi
 obtain rfl:Value.slice A ls[j].length c=u:=by simpa using hu
 rw[show j*(Kd.slice e (Kd.int .u8)).sz+0=j from by show j*1+0=j;omega,Addr.add_mid,Nat.zero_add,cell_of_row w g j _ _ _ hb]
 exact hc
theorem CC_one {e g:Nat} {t:TypeId} {fr:Nat × Nat} {w:World} {A:Option Addr} {c:Nat} {l:List Int} (hb:w.heap[g]?=some (.cells #[.slice A l.length c] t fr)) (hc:l.length≤c) (hC:Kd.C (Kd.int .u8) w A l.length l):Kd.C (Kd.slice e (Kd.int .u8)) w (some ⟨g,0,none⟩) 1 [l]:=
 CC_block (ls:=[l]) hb (by simp) (fun j hj=>by
  obtain rfl:j=0:=by simp at hj;omega
  exact ⟨A,c,rfl,hc,hC⟩)
theorem CC_two {e g:Nat} {t:TypeId} {fr:Nat × Nat} {w:World} {A A2:Option Addr} {c c2:Nat} {l l2:List Int} (hb:w.heap[g]?=some (.cells #[.slice A l.length c,.slice A2 l2.length c2] t fr)) (hc:l.length≤c) (hC:Kd.C (Kd.int .u8) w A l.length l) (hc2:l2.length≤c2) (hC2:Kd.C (Kd.int .u8) w A2 l2.length l2):Kd.C (Kd.slice e (Kd.int .u8)) w (some ⟨g,0,none⟩) 2 [l,l2]:=
 CC_block (ls:=[l,l2]) hb (by simp) (fun j hj=>by
  have:j=0∨j=1:=by simp at hj;omega
  rcases this with rfl | rfl
  ·exact ⟨A,c,rfl,hc,hC⟩
  exact ⟨A2,c2,rfl,hc2,hC2⟩)
theorem tag_one (w:World) (kv:Value) (B:List Int) (hB:B.length=64) (hown:Owns w kv B) (A0:Option Addr) (c0:Nat) (l:List Int) (e0:Nat) (hr:Kd.C (Kd.slice e0 (Kd.int .u8)) w A0 1 [l]) (hlen:l.length≤1000000000) :
  Calls Try.prog 71 #[kv,.slice A0 1 c0] w fun e w'=>∃ v0_:Value,e=.returned v0_∧Kd.R (Kd.int .u8) 5 w' w.heap.size (fun _=>True) v0_ (tagB B l)∧Below w.heap.size w w':=by
 have h:=tag_any w kv B hB hown A0 c0 [l] e0 hr (by simpa using hlen)
 rw[show [l].flatten=l from by simp] at h
 exact h
theorem tag_two (w:World) (kv:Value) (B:List Int) (hB:B.length=64) (hown:Owns w kv B) (A0:Option Addr) (c0:Nat) (l l2:List Int) (e0:Nat) (hr:Kd.C (Kd.slice e0 (Kd.int .u8)) w A0 2 [l,l2]) (hlen:l.length+l2.length≤1000000000) :
  Calls Try.prog 71 #[kv,.slice A0 2 c0] w fun e w'=>∃ v0_:Value,e=.returned v0_∧Kd.R (Kd.int .u8) 5 w' w.heap.size (fun _=>True) v0_ (tagB B (l++l2))∧Below w.heap.size w w':=by
 have h:=tag_any w kv B hB hown A0 c0 [l,l2] e0 hr (by simpa using hlen)
 rw[show [l,l2].flatten=l++l2 from by simp] at h
 exact h
set_option maxHeartbeats 2000000 in
set_option maxRecDepth 100000 in
theorem keyFits_any (w:World) (kv:Value) (B:List Int) (hB:B.length=64) (hown:Owns w kv B) (A1:Option Addr) (c1:Nat) (t:List Int) (hC1:Kd.C (Kd.int .u8) w A1 t.length t) (hc1:t.length≤c1) (htl:t.length≤281474976710656) (ht:∀ x ∈ t,byt x) (A0:Option Addr) (c0:Nat) (ls:List (List Int)) (e0:Nat) (hr:Kd.C (Kd.slice e0 (Kd.int .u8)) w A0 ls.length ls) (hlen:ls.flatten.length≤1000000000) :
  Calls Try.prog 77 #[kv,.slice A1 t.length c1,.slice A0 ls.length c0] w fun e w'=>e=.returned (.bool (decide (t=tagB B ls.flatten)))∧Below w.heap.size w w':=by
 have htag:=tag_any w kv B hB hown A0 c0 ls e0 hr hlen
 have hDl:=tagB_length B ls.flatten
 have hDb:=byt_tag B ls.flatten
 obtain ⟨D,hD⟩:∃ D,D=tagB B ls.flatten:=⟨_,rfl⟩
 rw[← hD] at htag hDl hDb ⊢
 have hsame:=octSame_eq t D htl ht hDb 0
 obtain ⟨R,hR⟩:∃ R,R=decide (t=D):=⟨_,rfl⟩
 rw[← hR] at hsame ⊢
 have htag':=Lib.hid htag
 have hDl':=Lib.hid hDl
 have hsame':=Lib.hid hsame
 have hC1':=Lib.hid hC1
 clear hB hown hC1 htl ht hr hlen htag hDl hDb hD hsame hR
 go_enter Try.func77,Try.ntmps77
 go_wp2_with (first
  |(go_at_call 71;refine htag'.out.mono ?_;rintro e w1 ⟨v,rfl,hR,hb⟩;obtain ⟨Ad,cd,rfl⟩:=Kd.R_slice hR;have hR1:=Lib.hid hR;have hb1:=Lib.hid hb;clear hR hb)
  |(go_at_call 48;refine (octet_Same.calls _ A1 c1 t Ad cd D _ _ (Kd.C_below hC1'.out hb1.out) hc1 (Kd.R_reads' hR1.out).2.2 (Kd.R_reads' hR1.out).2.1 hsame'.out).mono ?_;rintro e w2 ⟨rfl,hb⟩;have hb2:=Lib.hid hb;clear hb))
 go_ret
 exact ⟨rfl,hb1.out.trans (hb2.out.below.mono hb1.out.size)⟩
end Go.Proofs.Ytbajioiiaamokaa.Own
namespace Go.Proofs.Ytbajioiiaamokaa.Own
open Go.RowKit Go.Proofs.Ytbajioiiaamokaa.Arr Go.Proofs.Ytbajioiiaamokaa.QB Go.Proofs.YtbajioiiaamokaaW.PrintWords Go.Proofs.YtbajioiiaamokaaW.PrintLast Go.Proofs.YtbajioiiaamokaaW.PrintMore
set_option linter.unusedVariables false
set_option linter.unusedSimpArgs false
set_option maxHeartbeats 2000000 in
set_option maxRecDepth 100000 in
theorem macTag_any (A0:Option Addr) (c0:Nat) (l0:List Int) (A1:Option Addr) (c1:Nat) (l1:List Int) (w:World) (hr0:Kd.C (Kd.int .u8) w A0 l0.length l0) (hlen0:l0.length≤1000000000) (hr1:Kd.C (Kd.int .u8) w A1 l1.length l1) (hc1:l1.length≤c1) (hlen1:l1.length≤1000000000) :
  Calls Try.prog 43 #[.slice A0 l0.length c0,.slice A1 l1.length c1] w fun e w'=>∃ v0_:Value,e=.returned v0_∧Kd.R (Kd.int .u8) 5 w' w.heap.size (fun _=>True) v0_ (tagB (blockL l0) l1)∧Below w.heap.size w w':=by
 have hnew:=newKey_any A0 c0 l0 w hr0 (by omega)
 have hB:=blockL_length l0
 obtain ⟨B,hBe⟩:∃ B,B=blockL l0:=⟨_,rfl⟩
 rw[← hBe] at hnew hB ⊢
 have hnew':=Lib.hid hnew
 have hB':=Lib.hid hB
 have hr1':=Lib.hid hr1
 have hc1':=Lib.hid hc1
 have hlen1':=Lib.hid hlen1
 clear hnew hB hr0 hr1 hc1 hlen0 hlen1 hBe
 go_enter Try.func43,Try.ntmps43
 go_wp2_with (first
  |(go_at_call 70;refine hnew'.out.mono ?_;rintro e w1 ⟨g,rfl,hg,hk,hb⟩;have hk1:=Lib.hid hk;have hb1:=Lib.hid hb;clear hg hk hb)
  |(go_at_call 71;refine (tag_one _ _ B hB'.out (own_key _ g B (hk1.out.below ((Below.refl _ _).alloc (Nat.le_refl _) _))) _ _ l1 5 (CC_one (heap_at _ _ _ rfl) hc1'.out (Kd.C_alloc (Kd.C_below hr1'.out hb1.out) _)) hlen1'.out).mono ?_;rintro e w2 ⟨v,rfl,hR,hb⟩;have hR2:=Lib.hid hR;have hb2:=Lib.hid (below_step (below_alloc hb1.out _) hb);clear hR hb))
 go_ret
 exact ⟨_,rfl,Kd.R_lower hR2.out (by have:=hb1.out.size;simp;omega),hb2.out⟩
set_option maxHeartbeats 2000000 in
set_option maxRecDepth 100000 in
theorem macFits_any (A0:Option Addr) (c0:Nat) (l0:List Int) (A1:Option Addr) (c1:Nat) (l1:List Int) (A2:Option Addr) (c2:Nat) (l2:List Int) (w:World) (hr0:Kd.C (Kd.int .u8) w A0 l0.length l0) (hlen0:l0.length≤1000000000) (hr1:Kd.C (Kd.int .u8) w A1 l1.length l1) (hc1:l1.length≤c1) (hlen1:l1.length≤1000000000) (hr2:Kd.C (Kd.int .u8) w A2 l2.length l2) (hc2:l2.length≤c2) (hlen2:l2.length≤281474976710656) (hb2:∀ x ∈ l2,byt x) :
  Calls Try.prog 55 #[.slice A0 l0.length c0,.slice A1 l1.length c1,.slice A2 l2.length c2] w fun e w'=>e=.returned (.bool (decide (l2=tagB (blockL l0) l1)))∧Below w.heap.size w w':=by
 have hnew:=newKey_any A0 c0 l0 w hr0 (by omega)
 have hB:=blockL_length l0
 obtain ⟨B,hBe⟩:∃ B,B=blockL l0:=⟨_,rfl⟩
 rw[← hBe] at hnew hB ⊢
 have hfits:∀ w1 g A c,KeyAt w1 g B→Kd.C (Kd.int .u8) w1 A2 l2.length l2→Kd.C (Kd.slice 5 (Kd.int .u8)) w1 A 1 [l1]→Calls Try.prog 77 #[.pointer (some ⟨g,0,none⟩),.slice A2 l2.length c2,.slice A 1 c] w1 fun e w'=>e=.returned (.bool (decide (l2=tagB B l1)))∧Below w1.heap.size w1 w':=fun w1 g A c hk hC hr=>by
  have h:=keyFits_any w1 _ B hB (own_key _ g B hk) A2 c2 l2 hC hc2 hlen2 hb2 A c [l1] 5 hr (by simpa using hlen1)
  rw[show [l1].flatten=l1 from by simp] at h
  exact h
 obtain ⟨R,hR⟩:∃ R,R=decide (l2=tagB B l1):=⟨_,rfl⟩
 rw[← hR] at hfits ⊢
 have hnew':=Lib.hid hnew
 have hfits':=Lib.hid hfits
 have hr1':=Lib.hid hr1
 have hr2':=Lib.hid hr2
 have hc1':=Lib.hid hc1
 clear hnew hB hr0 hr1 hr2 hc1 hc2 hlen0 hlen1 hlen2 hb2 hBe hfits hR
 go_enter Try.func55,Try.ntmps55
 go_wp2_with (first
  |(go_at_call 70;refine hnew'.out.mono ?_;rintro e w1 ⟨g,rfl,hg,hk,hb⟩;have hk1:=Lib.hid hk;have hb1:=Lib.hid hb;clear hg hk hb)
  |(go_at_call 77;refine (hfits'.out _ g _ _ (hk1.out.below ((Below.refl _ _).alloc (Nat.le_refl _) _)) (Kd.C_alloc (Kd.C_below hr2'.out hb1.out) _) (CC_one (heap_at _ _ _ rfl) hc1'.out (Kd.C_alloc (Kd.C_below hr1'.out hb1.out) _))).mono ?_;rintro e w2 ⟨rfl,hb⟩;have hb2:=Lib.hid (below_step (below_alloc hb1.out _) hb);clear hb))
 go_ret
 exact ⟨rfl,hb2.out⟩
end Go.Proofs.Ytbajioiiaamokaa.Own
namespace Go.Proofs.Ytbajioiiaamokaa.Own
open Go.RowKit Go.Proofs.Ytbajioiiaamokaa.Arr Go.Proofs.Ytbajioiiaamokaa.QB Go.Proofs.YtbajioiiaamokaaW.PrintWords Go.Proofs.YtbajioiiaamokaaW.PrintLast Go.Proofs.YtbajioiiaamokaaW.PrintMore
set_option linter.unusedVariables false
set_option linter.unusedSimpArgs false
def duo (B u0:List Int):Nat→List Int × List Int
 |0=>(u0,u0)
 |n+1=>(tagB B (duo B u0 n).1,xorL (duo B u0 n).2 (tagB B (duo B u0 n).1))
theorem duo_len (B u0:List Int) (h:u0.length=32) (n:Nat):(duo B u0 n).1.length=32∧(duo B u0 n).2.length=32:=by
 induction n with
 |zero=>exact ⟨h,h⟩
 |succ n ih=>exact ⟨tagB_length _ _,by show (xorL _ _).length=32;rw[xorL_length _ _ (by rw[ih.2,tagB_length];exact Nat.le_refl _),ih.2]⟩
def blockD (B salt:List Int) (r:Nat) (i:Int):List Int:=(duo B (tagB B (salt++big4 i)) (r - 1)).2
theorem blockD_length (B salt:List Int) (r:Nat) (i:Int):(blockD B salt r i).length=32:=(duo_len B _ (tagB_length _ _) _).2
theorem octXor32 (a b:List Int) (h:a.length=32) (hb:b.length=32):octet_Xor.f 33 a b=some (xorL a b,0):=by
 have:=octXor_eq a b (by rw[h,hb]) (by rw[h];decide) 0
 rw[h] at this
 exact this
theorem xor32_any (a b:List Int) (h:a.length=32) (hb:b.length=32) (w:World) (A:Option Addr) (c:Nat) (A1:Option Addr) (c1:Nat) (hR:Kd.C (Kd.int .u8) w A 32 a) (hc:32≤c) (hR1:Kd.C (Kd.int .u8) w A1 32 b) (hc1:32≤c1) :
  Calls Try.prog 98 #[.slice A 32 c,.slice A1 32 c1] w fun e w'=>∃ v0_:Value,e=.returned (.tuple #[v0_,.int .i64 0])∧Kd.R (Kd.int .u8) 5 w' w.heap.size (fun _=>True) v0_ (xorL a b)∧Below w.heap.size w w':=by
 have:=octet_Xor.calls 33 A c a A1 c1 b (xorL a b) 0 w (by rw[h];exact hR) (by rw[h];exact hc) (by rw[hb];exact hR1) (by rw[hb];exact hc1) (octXor32 a b h hb)
 rw[h,hb] at this
 exact this
theorem big4_len (x:Int):(big4 x).length=4:=rfl
theorem R_32 {w:World} {base:Nat} {v:Value} {l:List Int} (h:Kd.R (Kd.int .u8) 5 w base (fun _=>True) v l) (hl:l.length=32):∃ A c,v=.slice A 32 c∧32≤c∧Kd.C (Kd.int .u8) w A 32 l:=by
 obtain ⟨A,c,rfl⟩:=Kd.R_slice h
 have h1:=Kd.R_reads' h
 rw[hl] at h1 ⊢
 exact ⟨A,c,rfl,h1.2.1,h1.2.2⟩
set_option maxHeartbeats 4000000 in
set_option maxRecDepth 100000 in
theorem dblock_any (w:World) (g:Nat) (B:List Int) (hk:KeyAt w g B) (A0:Option Addr) (c0:Nat) (salt:List Int) (hr:Kd.C (Kd.int .u8) w A0 salt.length salt) (hc0:salt.length≤c0) (hlen:salt.length≤100000000) (r:Nat) (hr1:1≤r) (hr2:r≤1000) (i:Int) (hi0:0≤i) (hi1:i≤1000) :
  Calls Try.prog 94 #[.pointer (some ⟨g,0,none⟩),.slice A0 salt.length c0,.int .i64 r,.int .i64 i] w fun e w'=>∃ v0_:Value,e=.returned v0_∧Kd.R (Kd.int .u8) 5 w' w.heap.size (fun _=>True) v0_ (blockD B salt r i)∧Below w.heap.size w w':=by
 have hB:B.length=64:=by obtain ⟨A,c,h,_⟩:=hk;exact h
 have hbig:=octet_Big.calls 5 i 4 (big4 i)
 have hbe:=big4_eq 0 i
 have hT1:=fun (w1:World) (A:Option Addr) (c:Nat) (hk1:KeyAt w1 g B) (hC:Kd.C (Kd.slice 5 (Kd.int .u8)) w1 A 2 [salt,big4 i])=>tag_two w1 _ B hB (own_key w1 g B hk1) A c salt (big4 i) 5 hC (by rw[big4_len];omega)
 have hT2:=fun (w1:World) (u:List Int) (hu:u.length=32) (A:Option Addr) (c:Nat) (hk1:KeyAt w1 g B) (hC:Kd.C (Kd.slice 5 (Kd.int .u8)) w1 A 1 [u])=>tag_one w1 _ B hB (own_key w1 g B hk1) A c u 5 hC (by rw[hu];decide)
 have hb4:=big4_len i
 obtain ⟨q,hq⟩:∃ q,q=big4 i:=⟨_,rfl⟩
 have hbd:blockD B salt r i=(duo B (tagB B (salt++q)) (r - 1)).2:=by rw[blockD,hq]
 rw[hbd]
 rw[← hq] at hbig hbe hT1 hb4
 obtain ⟨u0,hu0⟩:∃ u0,u0=tagB B (salt++q):=⟨_,rfl⟩
 have hul:u0.length=32:=by rw[hu0];exact tagB_length _ _
 rw[← hu0] at hT1 ⊢
 have hdl:=duo_len B u0 hul
 have hbig':=Lib.hid hbig
 have hbe':=Lib.hid hbe
 have hT1':=Lib.hid hT1
 have hT2':=Lib.hid hT2
 have hb4':=Lib.hid hb4
 have hul':=Lib.hid hul
 have hdl':=Lib.hid hdl
 have hk':=Lib.hid hk
 have hr':=Lib.hid hr
 have hc0':=Lib.hid hc0
 clear hB hbig hbe hT1 hT2 hb4 hq hbd hu0 hul hdl hk hr hc0
 go_enter Try.func94,Try.ntmps94
 go_wp2_with (first
  |(go_at_call 40;refine (hbig'.out _ hbe'.out).mono ?_;rintro e w1 ⟨v,rfl,hR,hb⟩;obtain ⟨Aq,cq,rfl⟩:=Kd.R_slice hR;have hR1:=Lib.hid (Kd.R_reads' hR).2.2;have hcq:=Lib.hid (Kd.R_reads' hR).2.1;have hb1:=Lib.hid hb;clear hR hb)
  |(go_at_call 71;refine (hT1'.out _ _ _ (hk'.out.below (below_alloc hb1.out _)) (CC_two (heap_at _ _ _ rfl) hc0'.out (Kd.C_alloc (Kd.C_below hr'.out hb1.out) _) hcq.out (Kd.C_alloc hR1.out _))).mono ?_;rintro e w2 ⟨v2,rfl,hR,hb⟩;have hR2:=Lib.hid (Kd.R_lower hR (show w.heap.size≤_ by have:=hb1.out.size;simp;omega));have hb2:=Lib.hid (below_step (below_alloc hb1.out _) hb);clear hR hb))
 go_loopw [9,10,21] (fun v o i wr=>∃ k:Nat,k≤r - 1∧i=.int .i64 k∧Kd.R (Kd.int .u8) 5 wr w.heap.size (fun _=>True) v (duo B u0 k).1∧Kd.R (Kd.int .u8) 5 wr w.heap.size (fun _=>True) o (duo B u0 k).2∧Below w.heap.size w wr) (fun _ _ i _=>r - 1 - (intOf i).toNat)
 case atStart=>exact ⟨0,Nat.zero_le _,rfl,hR2.out,hR2.out,hb2.out⟩
 case round=>
  obtain ⟨k,hk,rfl,hRv,hRo,hb⟩:=hrel
  clear hR2 hb2 hR1 hb1 hcq
  have hl:=hdl'.out k
  have hn1:(duo B u0 (k+1)).1=tagB B (duo B u0 k).1:=rfl
  have hn2:(duo B u0 (k+1)).2=xorL (duo B u0 k).2 (tagB B (duo B u0 k).1):=rfl
  obtain ⟨U,hU⟩:∃ U,U=(duo B u0 k).1:=⟨_,rfl⟩
  obtain ⟨O,hO⟩:∃ O,O=(duo B u0 k).2:=⟨_,rfl⟩
  rw[← hU] at hRv hn1 hn2 hl
  rw[← hO] at hRo hn2 hl
  have hRo':=Lib.hid hRo
  by_cases hlt:k<r - 1
  ·obtain ⟨Au,cu,rfl,hcu,hCu⟩:=R_32 hRv hl.1
   obtain ⟨Ao,co,rfl,hco,hCo⟩:=R_32 hRo hl.2
   have hCo':=Lib.hid hCo
   have hT:=hT2'.out
   have htl:=tagB_length B U
   obtain ⟨V,hV⟩:∃ V,V=tagB B U:=⟨_,rfl⟩
   have hTU:=fun w1 A c hk hC=>hT w1 U hl.1 A c hk hC
   rw[← hV] at hTU hn1 hn2 htl
   have hTU':=Lib.hid hTU
   have hn1':=Lib.hid hn1
   have hn2':=Lib.hid hn2
   have htl':=Lib.hid htl
   have hl1:=Lib.hid hl.1
   have hl2:=Lib.hid hl.2
   have hCu':=Lib.hid hCu
   have hb':=Lib.hid hb
   have hkr:=Lib.hid (hk'.out.below hb)
   clear hT hTU hn1 hn2 htl hl hCu hb hRv hU hO hV hRo hCo
   go_wp2_with (first
    |(go_at_call 71;refine (hTU'.out _ _ _ (hkr.out.below (below_alloc (Below.refl _ _) _)) (by have h:=CC_one (w:=wr.alloc (.cells #[.slice Au 32 cu] 23)) (l:=U) (A:=Au) (c:=cu) (e:=5) (by rw[hl1.out];exact heap_at _ _ _ rfl) (by rw[hl1.out];exact hcu) (by rw[hl1.out];exact Kd.C_alloc hCu'.out _);exact h)).mono ?_;rintro e w3 ⟨v3,rfl,hR,hb⟩;have hb3:=Lib.hid (below_step (below_alloc (Below.refl wr.heap.size wr) _) hb);have hR3:=Lib.hid (Kd.R_lower hR (show w.heap.size≤_ by have:=hb'.out.size;simp;omega));obtain ⟨Av,cv,rfl,hcv,hCv⟩:=R_32 hR htl'.out;have hCv':=Lib.hid hCv;clear hR hb hCv)
    |(go_at_call 98;refine (xor32_any O V hl2.out htl'.out _ Ao co Av cv (Kd.C_below hCo'.out hb3.out) hco hCv'.out hcv).mono ?_;rintro e w4 ⟨v4,rfl,hR,hb⟩;have hb4:=Lib.hid hb;have hR4:=Lib.hid (Kd.R_lower hR (show w.heap.size≤_ from Nat.le_trans hb'.out.size hb3.out.size));clear hR hb))
   go_roundw
   case rel=>exact ⟨k+1,by omega,by go_num,by rw[hn1'.out];exact Kd.R_below hR3.out hb4.out,by rw[hn2'.out];exact hR4.out,hb'.out.trans ((hb3.out.mono hb'.out.size).trans (hb4.out.mono (Nat.le_trans hb'.out.size hb3.out.size)))⟩
   case measure=>simp[intOf];omega
  obtain rfl:k=r - 1:=by omega
  have hb':=Lib.hid hb
  have hO':=Lib.hid hO
  clear hRv hRo hn1 hn2 hl hU hO hb
  go_wp2_with fail
  go_ret
  exact ⟨_,rfl,by rw[← hO'.out];exact hRo'.out,hb'.out⟩
end Go.Proofs.Ytbajioiiaamokaa.Own
