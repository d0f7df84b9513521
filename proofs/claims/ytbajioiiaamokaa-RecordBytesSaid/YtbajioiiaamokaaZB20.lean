/- ShR, pruned (slim.py). -/
import Derived.Test.YtbajioiiaamokaaZB19
import Derived.Lib.SlBytesConst
import Derived.Test.YtbajioiiaamokaaZB4
import Derived.Test.YtbajioiiaamokaaZB5
import Derived.Test.YtbajioiiaamokaaZB6
import Derived.Test.YtbajioiiaamokaaZB7
import Derived.Test.YtbajioiiaamokaaZB8
import Derived.Test.YtbajioiiaamokaaZB9
import Derived.Test.YtbajioiiaamokaaZB10
namespace Go.Proofs.Ytbajioiiaamokaa.Own
open Go.RowKit Go.Proofs.Ytbajioiiaamokaa.Arr Go.Proofs.Ytbajioiiaamokaa.QB Go.Proofs.YtbajioiiaamokaaW.PrintWords Go.Proofs.YtbajioiiaamokaaW.PrintLast Go.Proofs.YtbajioiiaamokaaW.PrintMore
set_option linter.unusedVariables false
set_option linter.unusedSimpArgs false
theorem w64 (x:Int) (h0 : -9223372036854775808≤x) (h1:x<9223372036854775808):wrap64 x=x:=by unfold wrap64;omega
def U (x:Int):Prop:=0≤x∧x<4294967296
theorem U_mod (x:Int):U (x % 4294967296):=by unfold U;omega
theorem power_l (n:Nat) (hn:n≤31) (d:Nat):∀ i,i+d=n→∀ k,nepentheref02_power.l0 (k+d+1) (n:Int) ((2:Int) ^ i) (i:Int)=some ((2:Int) ^ n):=by
 induction d with
 |zero=>
  intro i hi k
  obtain rfl:i=n:=by omega
  rw[nepentheref02_power.l0,if_neg (by omega)]
 |succ d ih=>
  intro i hi k
  rw[show k+(d+1)+1=(k+d+1)+1 from by omega,nepentheref02_power.l0,if_pos (by omega),w64 _ (by omega) (by omega)]
  have hp:((2:Int) ^ i*2) % 4294967296=(2:Int) ^ (i+1):=by
   rw[← Int.pow_succ]
   refine Int.emod_eq_of_lt (Int.le_of_lt (Int.pow_pos (by decide))) ?_
   have:(2:Nat) ^ (i+1)≤2 ^ 31:=Nat.pow_le_pow_right (by decide) (by omega)
   have h2:((2:Int) ^ (i+1))=(((2:Nat) ^ (i+1):Nat):Int):=by simp
   rw[h2];omega
  rw[hp]
  have:=ih (i+1) (by omega) k
  rw[show ((i+1:Nat):Int)=(i:Int)+1 from by omega] at this
  exact this
theorem power_eq (n:Nat) (hn:n≤31) (k:Nat):nepentheref02_power.f (k+40) (n:Int)=some ((2:Int) ^ n):=by
 have:=power_l n hn n 0 (by omega) (k+39 - n)
 rw[show k+39 - n+n+1=k+40 from by omega] at this
 exact this
theorem rotr_eq (n:Nat) (h1:1≤n) (hn:n≤31) (x:Int) (k:Nat):nepentheref02_rotr.f (k+40) x (n:Int)=some (((Int.tdiv x ((2:Int) ^ n)) % 4294967296+((Int.tmod x ((2:Int) ^ n))*(2:Int) ^ (32 - n)) % 4294967296) % 4294967296):=by
 have hne : ¬ ((2:Int) ^ n=0):=Int.ne_of_gt (Int.pow_pos (by decide))
 have h32:wrap64 (32 - (n:Int))=((32 - n:Nat):Int):=by rw[w64 _ (by omega) (by omega)];omega
 unfold nepentheref02_rotr.f
 rw[power_eq n hn]
 simp only[Option.bind_some]
 rw[if_neg hne,if_neg hne,h32,power_eq (32 - n) (by omega)]
 simp only[Option.bind_some]
theorem wraps_u32 (n:Int) (h₀:0≤n) (h₁:n<2 ^ 32):IntKind.u32.wrap n=n:=by rw[IntKind.wrap_u32];omega
theorem rot17 (x:Int) (h:U x) (k:Nat):nepentheref02_rotr.f (k+40) x 17=some (rl x (-17)):=by
 have h1:=rotr_eq 17 (by decide) (by decide) x k
 rw[show ((17:Nat):Int)=17 from rfl] at h1
 rw[h1]
 have hs:Go.bits .and .u64 (IntKind.u64.wrap (-(17:Int))) 31=15:=by decide
 have hw:IntKind.u64.wrap (32 - (15:Int))=17:=by decide
 unfold rl bits_RotateLeft32.f
 rw[hs,if_pos (by decide),hw,if_pos (by decide)]
 simp only[Option.getD_some,shl,shr,IntKind.bits,Int.reduceToNat,Nat.min_def,Nat.reduceLeDiff,↓reduceIte,Int.reducePow]
 rw[IntKind.wrap_u32]
 obtain ⟨h0,h2⟩:=h
 rw[Go.bits_join .u32 32 (by decide) wraps_u32 15 _ _ (by omega) (by omega) (by omega) (by omega) (by omega) (by omega)]
 rw[Int.tdiv_eq_ediv_of_nonneg h0,Int.tmod_eq_emod_of_nonneg h0]
 simp only[Nat.reduceSub,Int.reducePow]
 congr 1
 omega
theorem rot19 (x:Int) (h:U x) (k:Nat):nepentheref02_rotr.f (k+40) x 19=some (rl x (-19)):=by
 have h1:=rotr_eq 19 (by decide) (by decide) x k
 rw[show ((19:Nat):Int)=19 from rfl] at h1
 rw[h1]
 have hs:Go.bits .and .u64 (IntKind.u64.wrap (-(19:Int))) 31=13:=by decide
 have hw:IntKind.u64.wrap (32 - (13:Int))=19:=by decide
 unfold rl bits_RotateLeft32.f
 rw[hs,if_pos (by decide),hw,if_pos (by decide)]
 simp only[Option.getD_some,shl,shr,IntKind.bits,Int.reduceToNat,Nat.min_def,Nat.reduceLeDiff,↓reduceIte,Int.reducePow]
 rw[IntKind.wrap_u32]
 obtain ⟨h0,h2⟩:=h
 rw[Go.bits_join .u32 32 (by decide) wraps_u32 13 _ _ (by omega) (by omega) (by omega) (by omega) (by omega) (by omega)]
 rw[Int.tdiv_eq_ediv_of_nonneg h0,Int.tmod_eq_emod_of_nonneg h0]
 simp only[Nat.reduceSub,Int.reducePow]
 congr 1
 omega
theorem rot7 (x:Int) (h:U x) (k:Nat):nepentheref02_rotr.f (k+40) x 7=some (rl x (-7)):=by
 have h1:=rotr_eq 7 (by decide) (by decide) x k
 rw[show ((7:Nat):Int)=7 from rfl] at h1
 rw[h1]
 have hs:Go.bits .and .u64 (IntKind.u64.wrap (-(7:Int))) 31=25:=by decide
 have hw:IntKind.u64.wrap (32 - (25:Int))=7:=by decide
 unfold rl bits_RotateLeft32.f
 rw[hs,if_pos (by decide),hw,if_pos (by decide)]
 simp only[Option.getD_some,shl,shr,IntKind.bits,Int.reduceToNat,Nat.min_def,Nat.reduceLeDiff,↓reduceIte,Int.reducePow]
 rw[IntKind.wrap_u32]
 obtain ⟨h0,h2⟩:=h
 rw[Go.bits_join .u32 32 (by decide) wraps_u32 25 _ _ (by omega) (by omega) (by omega) (by omega) (by omega) (by omega)]
 rw[Int.tdiv_eq_ediv_of_nonneg h0,Int.tmod_eq_emod_of_nonneg h0]
 simp only[Nat.reduceSub,Int.reducePow]
 congr 1
 omega
theorem rot18 (x:Int) (h:U x) (k:Nat):nepentheref02_rotr.f (k+40) x 18=some (rl x (-18)):=by
 have h1:=rotr_eq 18 (by decide) (by decide) x k
 rw[show ((18:Nat):Int)=18 from rfl] at h1
 rw[h1]
 have hs:Go.bits .and .u64 (IntKind.u64.wrap (-(18:Int))) 31=14:=by decide
 have hw:IntKind.u64.wrap (32 - (14:Int))=18:=by decide
 unfold rl bits_RotateLeft32.f
 rw[hs,if_pos (by decide),hw,if_pos (by decide)]
 simp only[Option.getD_some,shl,shr,IntKind.bits,Int.reduceToNat,Nat.min_def,Nat.reduceLeDiff,↓reduceIte,Int.reducePow]
 rw[IntKind.wrap_u32]
 obtain ⟨h0,h2⟩:=h
 rw[Go.bits_join .u32 32 (by decide) wraps_u32 14 _ _ (by omega) (by omega) (by omega) (by omega) (by omega) (by omega)]
 rw[Int.tdiv_eq_ediv_of_nonneg h0,Int.tmod_eq_emod_of_nonneg h0]
 simp only[Nat.reduceSub,Int.reducePow]
 congr 1
 omega
theorem rot6 (x:Int) (h:U x) (k:Nat):nepentheref02_rotr.f (k+40) x 6=some (rl x (-6)):=by
 have h1:=rotr_eq 6 (by decide) (by decide) x k
 rw[show ((6:Nat):Int)=6 from rfl] at h1
 rw[h1]
 have hs:Go.bits .and .u64 (IntKind.u64.wrap (-(6:Int))) 31=26:=by decide
 have hw:IntKind.u64.wrap (32 - (26:Int))=6:=by decide
 unfold rl bits_RotateLeft32.f
 rw[hs,if_pos (by decide),hw,if_pos (by decide)]
 simp only[Option.getD_some,shl,shr,IntKind.bits,Int.reduceToNat,Nat.min_def,Nat.reduceLeDiff,↓reduceIte,Int.reducePow]
 rw[IntKind.wrap_u32]
 obtain ⟨h0,h2⟩:=h
 rw[Go.bits_join .u32 32 (by decide) wraps_u32 26 _ _ (by omega) (by omega) (by omega) (by omega) (by omega) (by omega)]
 rw[Int.tdiv_eq_ediv_of_nonneg h0,Int.tmod_eq_emod_of_nonneg h0]
 simp only[Nat.reduceSub,Int.reducePow]
 congr 1
 omega
theorem rot11 (x:Int) (h:U x) (k:Nat):nepentheref02_rotr.f (k+40) x 11=some (rl x (-11)):=by
 have h1:=rotr_eq 11 (by decide) (by decide) x k
 rw[show ((11:Nat):Int)=11 from rfl] at h1
 rw[h1]
 have hs:Go.bits .and .u64 (IntKind.u64.wrap (-(11:Int))) 31=21:=by decide
 have hw:IntKind.u64.wrap (32 - (21:Int))=11:=by decide
 unfold rl bits_RotateLeft32.f
 rw[hs,if_pos (by decide),hw,if_pos (by decide)]
 simp only[Option.getD_some,shl,shr,IntKind.bits,Int.reduceToNat,Nat.min_def,Nat.reduceLeDiff,↓reduceIte,Int.reducePow]
 rw[IntKind.wrap_u32]
 obtain ⟨h0,h2⟩:=h
 rw[Go.bits_join .u32 32 (by decide) wraps_u32 21 _ _ (by omega) (by omega) (by omega) (by omega) (by omega) (by omega)]
 rw[Int.tdiv_eq_ediv_of_nonneg h0,Int.tmod_eq_emod_of_nonneg h0]
 simp only[Nat.reduceSub,Int.reducePow]
 congr 1
 omega
theorem rot25 (x:Int) (h:U x) (k:Nat):nepentheref02_rotr.f (k+40) x 25=some (rl x (-25)):=by
 have h1:=rotr_eq 25 (by decide) (by decide) x k
 rw[show ((25:Nat):Int)=25 from rfl] at h1
 rw[h1]
 have hs:Go.bits .and .u64 (IntKind.u64.wrap (-(25:Int))) 31=7:=by decide
 have hw:IntKind.u64.wrap (32 - (7:Int))=25:=by decide
 unfold rl bits_RotateLeft32.f
 rw[hs,if_pos (by decide),hw,if_pos (by decide)]
 simp only[Option.getD_some,shl,shr,IntKind.bits,Int.reduceToNat,Nat.min_def,Nat.reduceLeDiff,↓reduceIte,Int.reducePow]
 rw[IntKind.wrap_u32]
 obtain ⟨h0,h2⟩:=h
 rw[Go.bits_join .u32 32 (by decide) wraps_u32 7 _ _ (by omega) (by omega) (by omega) (by omega) (by omega) (by omega)]
 rw[Int.tdiv_eq_ediv_of_nonneg h0,Int.tmod_eq_emod_of_nonneg h0]
 simp only[Nat.reduceSub,Int.reducePow]
 congr 1
 omega
theorem rot2 (x:Int) (h:U x) (k:Nat):nepentheref02_rotr.f (k+40) x 2=some (rl x (-2)):=by
 have h1:=rotr_eq 2 (by decide) (by decide) x k
 rw[show ((2:Nat):Int)=2 from rfl] at h1
 rw[h1]
 have hs:Go.bits .and .u64 (IntKind.u64.wrap (-(2:Int))) 31=30:=by decide
 have hw:IntKind.u64.wrap (32 - (30:Int))=2:=by decide
 unfold rl bits_RotateLeft32.f
 rw[hs,if_pos (by decide),hw,if_pos (by decide)]
 simp only[Option.getD_some,shl,shr,IntKind.bits,Int.reduceToNat,Nat.min_def,Nat.reduceLeDiff,↓reduceIte,Int.reducePow]
 rw[IntKind.wrap_u32]
 obtain ⟨h0,h2⟩:=h
 rw[Go.bits_join .u32 32 (by decide) wraps_u32 30 _ _ (by omega) (by omega) (by omega) (by omega) (by omega) (by omega)]
 rw[Int.tdiv_eq_ediv_of_nonneg h0,Int.tmod_eq_emod_of_nonneg h0]
 simp only[Nat.reduceSub,Int.reducePow]
 congr 1
 omega
theorem rot13 (x:Int) (h:U x) (k:Nat):nepentheref02_rotr.f (k+40) x 13=some (rl x (-13)):=by
 have h1:=rotr_eq 13 (by decide) (by decide) x k
 rw[show ((13:Nat):Int)=13 from rfl] at h1
 rw[h1]
 have hs:Go.bits .and .u64 (IntKind.u64.wrap (-(13:Int))) 31=19:=by decide
 have hw:IntKind.u64.wrap (32 - (19:Int))=13:=by decide
 unfold rl bits_RotateLeft32.f
 rw[hs,if_pos (by decide),hw,if_pos (by decide)]
 simp only[Option.getD_some,shl,shr,IntKind.bits,Int.reduceToNat,Nat.min_def,Nat.reduceLeDiff,↓reduceIte,Int.reducePow]
 rw[IntKind.wrap_u32]
 obtain ⟨h0,h2⟩:=h
 rw[Go.bits_join .u32 32 (by decide) wraps_u32 19 _ _ (by omega) (by omega) (by omega) (by omega) (by omega) (by omega)]
 rw[Int.tdiv_eq_ediv_of_nonneg h0,Int.tmod_eq_emod_of_nonneg h0]
 simp only[Nat.reduceSub,Int.reducePow]
 congr 1
 omega
theorem rot22 (x:Int) (h:U x) (k:Nat):nepentheref02_rotr.f (k+40) x 22=some (rl x (-22)):=by
 have h1:=rotr_eq 22 (by decide) (by decide) x k
 rw[show ((22:Nat):Int)=22 from rfl] at h1
 rw[h1]
 have hs:Go.bits .and .u64 (IntKind.u64.wrap (-(22:Int))) 31=10:=by decide
 have hw:IntKind.u64.wrap (32 - (10:Int))=22:=by decide
 unfold rl bits_RotateLeft32.f
 rw[hs,if_pos (by decide),hw,if_pos (by decide)]
 simp only[Option.getD_some,shl,shr,IntKind.bits,Int.reduceToNat,Nat.min_def,Nat.reduceLeDiff,↓reduceIte,Int.reducePow]
 rw[IntKind.wrap_u32]
 obtain ⟨h0,h2⟩:=h
 rw[Go.bits_join .u32 32 (by decide) wraps_u32 10 _ _ (by omega) (by omega) (by omega) (by omega) (by omega) (by omega)]
 rw[Int.tdiv_eq_ediv_of_nonneg h0,Int.tmod_eq_emod_of_nonneg h0]
 simp only[Nat.reduceSub,Int.reducePow]
 congr 1
 omega
def byt (x:Int):Prop:=0≤x∧x<256
theorem wraps_u64 (n:Int) (h₀:0≤n) (h₁:n<2 ^ 64):IntKind.u64.wrap n=n:=by rw[IntKind.wrap_u64];omega
theorem numStep_eq (n x:Int) (h0:0≤n) (h1:n<72057594037927936) (hx:byt x):numStep n x=n*256+x:=by
 obtain ⟨hx0,hx1⟩:=hx
 unfold numStep
 rw[wraps_u64 (n*256) (by omega) (by omega),wraps_u64 x (by omega) (by omega)]
 exact Go.bits_join .u64 64 (by decide) wraps_u64 8 _ _ (by omega) (by omega) (by omega) (by omega) (by omega) (by omega)
theorem numL_4 (a b c d:Int) (ha:byt a) (hb:byt b) (hc:byt c) (hd:byt d):numL [a,b,c,d]=a*16777216+b*65536+c*256+d:=by
 obtain ⟨a0,a1⟩:=ha
 have hb':=hb
 have hc':=hc
 obtain ⟨b0,b1⟩:=hb'
 obtain ⟨c0,c1⟩:=hc'
 unfold numL
 simp only[List.foldl_cons,List.foldl_nil]
 rw[numStep_eq 0 a (by omega) (by omega) ⟨a0,a1⟩,numStep_eq _ b (by omega) (by omega) hb,numStep_eq _ c (by omega) (by omega) hc,numStep_eq _ d (by omega) (by omega) hd]
 omega
theorem num4 (a b c d:Int) (ha:byt a) (hb:byt b) (hc:byt c) (hd:byt d) (k:Nat):nepentheref01_Num.f (k+10) [a,b,c,d]=some (numL [a,b,c,d]):=by
 rw[numL_4 a b c d ha hb hc hd]
 obtain ⟨a0,a1⟩:=ha
 obtain ⟨b0,b1⟩:=hb
 obtain ⟨c0,c1⟩:=hc
 obtain ⟨d0,d1⟩:=hd
 simp[nepentheref01_Num.f,nepentheref01_Back.f,nepentheref01_Back.l0,nepentheref01_NumLittle.f,nepentheref01_NumLittle.l0,wrap64,rd,mn,IntKind.wrap_u64]
 omega
theorem four (l:List Int) (hl:l.length=4):∃ a b c d,l=[a,b,c,d]:=by
 match l,hl with
 |[a,b,c,d],_=>exact ⟨a,b,c,d,rfl⟩
def UL (l:List Int):Prop:=∀ i,U (l.getD i 0)
theorem UL_set {l:List Int} (h:UL l) (j:Nat) (x:Int) (hx:U x):UL (l.set j x):=fun i=>by
 rw[List.getD_eq_getElem?_getD,List.getElem?_set]
 by_cases e:j=i
 ·subst e
  rw[if_pos rfl]
  split
  ·exact hx
  exact ⟨Int.le_refl 0,by decide⟩
 rw[if_neg e,← List.getD_eq_getElem?_getD];exact h i
theorem UL_zer (n:Nat):UL (zer n):=fun i=>by
 unfold zer
 rw[List.getD_eq_getElem?_getD,List.getElem?_replicate]
 split <;> exact ⟨Int.le_refl 0,by decide⟩
theorem U_wval (b:List Int) (t:Nat) (W:List Int):U (wval b t W):=by
 unfold wval
 split <;> exact U_mod _
theorem UL_ws (b:List Int) (t:Nat):UL (ws b t):=by
 induction t with
 |zero=>exact UL_zer 64
 |succ t ih=>exact UL_set ih _ _ (U_wval _ _ _)
theorem take_ws (b:List Int) (t:Nat) (h:t<64):(ws b (t+1)).take (t+1)=(ws b t).take t ++ [wval b t (ws b t)]:=by
 have hl:=ws_length b t
 rw[ws,List.take_succ_eq_append_getElem (by rw[List.length_set,hl];exact h),List.take_set_of_le (Nat.le_refl t)]
 simp
theorem rd_take (l:List Int) (n i:Nat) (h:i<n):rd (l.take n) (i:Int)=l.getD i 0:=by
 unfold rd
 rw[Int.toNat_natCast,List.getD_eq_getElem?_getD,List.getElem?_take,if_pos h,← List.getD_eq_getElem?_getD]
theorem words_l (b:List Int) (hb:∀ x ∈ b,byt x) (hl:b.length=64) (d:Nat):∀ t,t+d=64→∀ k,nepentheref02_words.l0 (k+50+d) b ((ws b t).take t) (t:Int)=some (ws b 64):=by
 induction d with
 |zero=>
  intro t ht k
  obtain rfl:t=64:=by omega
  rw[show k+50+0=(k+49)+1 from by omega,nepentheref02_words.l0,if_neg (by decide),List.take_of_length_le (by rw[ws_length];omega)]
 |succ d ih=>
  intro t ht k
  have hlen:((ws b t).take t).length=t:=by rw[List.length_take,ws_length];omega
  have hnext:=ih (t+1) (by omega) k
  rw[take_ws b t (by omega),show ((t+1:Nat):Int)=(t:Int)+1 from by omega] at hnext
  have hw1:wrap64 ((t:Int)+1)=(t:Int)+1:=w64 _ (by omega) (by omega)
  rw[show k+50+(d+1)=(k+50+d)+1 from by omega,nepentheref02_words.l0,if_pos (by omega)]
  by_cases h16:t<16
  ·have h4:wrap64 (4*(t:Int))=((4*t:Nat):Int):=by rw[w64 _ (by omega) (by omega)];omega
   have h44:wrap64 (((4*t:Nat):Int)+4)=((4*t+4:Nat):Int):=by rw[w64 _ (by omega) (by omega)];omega
   rw[if_pos (by omega),h4,h44,if_pos (by omega),if_pos (by omega),if_pos (by rw[hl];omega),Int.toNat_natCast,Int.toNat_natCast]
   have hv:wval b t (ws b t)=numL ((b.take (4*t+4)).drop (4*t)) % 4294967296:=by rw[wval,if_pos h16]
   have hml:∀ x ∈ (b.take (4*t+4)).drop (4*t),byt x:=fun x hx=>hb x (List.mem_of_mem_take (List.mem_of_mem_drop hx))
   obtain ⟨x0,x1,x2,x3,hx⟩:=four ((b.take (4*t+4)).drop (4*t)) (by rw[List.length_drop,List.length_take,hl];omega)
   rw[hx] at hv hml ⊢
   rw[show k+50+d=(k+40+d)+10 from by omega,num4 x0 x1 x2 x3 (hml _ (by simp)) (hml _ (by simp)) (hml _ (by simp)) (hml _ (by simp))]
   simp only[Option.bind_some]
   rw[if_pos (by rw[hlen];omega),hw1,← hv,show (k+40+d)+10=k+50+d from by omega]
   exact hnext
  have e15:wrap64 ((t:Int) - 15)=((t - 15:Nat):Int):=by rw[w64 _ (by omega) (by omega)];omega
  have e2:wrap64 ((t:Int) - 2)=((t - 2:Nat):Int):=by rw[w64 _ (by omega) (by omega)];omega
  have e7:wrap64 ((t:Int) - 7)=((t - 7:Nat):Int):=by rw[w64 _ (by omega) (by omega)];omega
  have e16:wrap64 ((t:Int) - 16)=((t - 16:Nat):Int):=by rw[w64 _ (by omega) (by omega)];omega
  have hk:k+50+d=(k+10+d)+40:=by omega
  have hu:=UL_ws b t
  have hp10:nepentheref02_power.f ((k+10+d)+40) 10=some 1024:=power_eq 10 (by decide) _
  have hp3:nepentheref02_power.f ((k+10+d)+40) 3=some 8:=power_eq 3 (by decide) _
  rw[if_neg (by omega),e15,e2,e7,e16,hlen,rd_take _ _ _ (by omega),rd_take _ _ _ (by omega),rd_take _ _ _ (by omega),rd_take _ _ _ (by omega)]
  rw[if_pos (by omega),if_pos (by omega),if_pos (by omega),if_pos (by omega),hk,rot17 _ (hu _),rot19 _ (hu _),hp10]
  simp only[Option.bind_some]
  rw[if_neg (by decide),if_pos (by omega),if_pos (by omega),rot7 _ (hu _),rot18 _ (hu _),hp3]
  simp only[Option.bind_some]
  rw[if_neg (by decide),if_pos (by omega),if_pos (by omega),if_pos (by omega),hw1]
  rw[show wval b t (ws b t)=(((sig1 ((ws b t).getD (t - 2) 0)+(ws b t).getD (t - 7) 0) % 4294967296+sig0 ((ws b t).getD (t - 15) 0)) % 4294967296+(ws b t).getD (t - 16) 0) % 4294967296 from by rw[wval,if_neg h16],sig0,sig1] at hnext
  rw[← hk,Int.tdiv_eq_ediv_of_nonneg (hu _).1,Int.tdiv_eq_ediv_of_nonneg (hu _).1,Int.emod_eq_of_lt (a:=(ws b t).getD (t - 2) 0 / 1024) (by have:=hu (t - 2);unfold U at this;omega) (by have:=hu (t - 2);unfold U at this;omega),Int.emod_eq_of_lt (a:=(ws b t).getD (t - 15) 0 / 8) (by have:=hu (t - 15);unfold U at this;omega) (by have:=hu (t - 15);unfold U at this;omega)]
  exact hnext
theorem words_eq (b:List Int) (hb:∀ x ∈ b,byt x) (hl:b.length=64) (k:Nat):nepentheref02_words.f (k+120) b=some (ws b 64):=by
 have:=words_l b hb hl 64 0 (by omega) (k+6)
 rw[show k+6+50+64=k+120 from by omega] at this
 exact this
theorem xor_all (e:Int) (h:U e):Go.bits .xor .u32 4294967295 e=(4294967295 - e) % 4294967296:=by
 obtain ⟨h0,h1⟩:=h
 obtain ⟨n,rfl⟩:=Int.eq_ofNat_of_zero_le h0
 have hn:n<2 ^ 32:=by omega
 have e1:Go.bits .xor .u32 4294967295 (n:Int)=IntKind.u32.wrap (((BitVec.ofInt 32 (4294967295:Int)) ^^^ (BitVec.ofInt 32 (n:Int))).toNat:Int):=rfl
 have e2:BitVec.ofInt 32 (4294967295:Int)=BitVec.allOnes 32:=by decide
 rw[e1,e2,BitVec.ofInt_natCast,BitVec.allOnes_xor,BitVec.toNat_not,BitVec.toNat_ofNat,Nat.mod_eq_of_lt hn,IntKind.wrap_u32]
 omega
theorem UL_step {v:List Int} (h:UL v) (kt wt:Int):UL (stepV kt wt v):=by
 intro i
 unfold stepV
 match i with
 |0=>exact U_mod _
 |1=>exact h 0
 |2=>exact h 1
 |3=>exact h 2
 |4=>exact U_mod _
 |5=>exact h 4
 |6=>exact h 5
 |7=>exact h 6
 |n+8=>exact ⟨Int.le_refl 0,(by show (0:Int)<4294967296;decide)⟩
theorem UL_vs {W s:List Int} (h:UL s) (t:Nat):UL (vs W s t):=by
 induction t with
 |zero=>exact h
 |succ t ih=>exact UL_step ih _ _
theorem UL_adds {v s:List Int} (h:UL v) (t:Nat):UL (adds v s t):=by
 induction t with
 |zero=>exact h
 |succ t ih=>exact UL_set ih _ _ (U_mod _)
theorem UL_comp {s b:List Int} (h:UL s):UL (compL s b):=UL_adds (UL_vs h 64) 8
theorem comp_l (s W:List Int) (hs:UL s) (hs8:s.length=8) (hW:W.length=64) (d:Nat):∀ t,t+d=64→∀ k,nepentheref02_Compress.l0 (k+50+d) s W K0 (vs W s t) (t:Int)=nepentheref02_Compress.l1 (k+49) s (vs W s 64) [] 0:=by
 induction d with
 |zero=>
  intro t ht k
  obtain rfl:t=64:=by omega
  rw[show k+50+0=(k+49)+1 from by omega,nepentheref02_Compress.l0,if_neg (by decide)]
 |succ d ih=>
  intro t ht k
  have hnext:=ih (t+1) (by omega) k
  rw[show ((t+1:Nat):Int)=(t:Int)+1 from by omega] at hnext
  have hu:=UL_vs (W:=W) hs t
  have hl:=vs_length W s hs8 t
  have hw1:wrap64 ((t:Int)+1)=(t:Int)+1:=w64 _ (by omega) (by omega)
  have hk:k+50+d=(k+10+d)+40:=by omega
  rw[vs] at hnext
  generalize vs W s t=V at hnext hu hl ⊢
  rw[show k+50+(d+1)=(k+50+d)+1 from by omega,nepentheref02_Compress.l0,if_pos (by omega),if_pos (by rw[hl];decide),if_pos (by rw[hl];decide)]
  have h0:rd V 0=V.getD 0 0:=rfl
  have h1:rd V 1=V.getD 1 0:=rfl
  have h2:rd V 2=V.getD 2 0:=rfl
  have h3:rd V 3=V.getD 3 0:=rfl
  have h4:rd V 4=V.getD 4 0:=rfl
  have h5:rd V 5=V.getD 5 0:=rfl
  have h6:rd V 6=V.getD 6 0:=rfl
  have h7:rd V 7=V.getD 7 0:=rfl
  have hKt:rd K0 (t:Int)=K0.getD t 0:=by unfold rd;rw[Int.toNat_natCast]
  have hWt:rd W (t:Int)=W.getD t 0:=by unfold rd;rw[Int.toNat_natCast]
  rw[h0,h1,h2,h3,h4,h5,h6,h7,hKt,hWt,hk,rot6 _ (hu 4),rot11 _ (hu 4),rot25 _ (hu 4)]
  simp only[Option.bind_some]
  rw[if_pos (by rw[hl];decide),if_pos (by rw[hl];decide),if_pos (by omega),if_pos (by rw[K0_length];omega),if_pos (by rw[hW];omega),if_pos (by rw[hl];decide),rot2 _ (hu 0),rot13 _ (hu 0),rot22 _ (hu 0)]
  simp only[Option.bind_some]
  rw[if_pos (by rw[hl];decide),if_pos (by rw[hl];decide),if_pos (by rw[hl];decide),hw1,← hk,← xor_all _ (hu 4)]
  rw[← hnext]
  congr 1
  simp only[stepV,t1of,t2of,big1,big0,cho,maj,Int.emod_add_emod,Int.add_emod_emod,Int.add_assoc]
theorem take_adds (v s:List Int) (h:v.length=8) (t:Nat) (ht:t<8):(adds v s (t+1)).take (t+1)=(adds v s t).take t ++ [(v.getD t 0+s.getD t 0) % 4294967296]:=by
 have hl:=adds_length v s h t
 have hold:∀ t,∀ j,t≤j→(adds v s t).getD j 0=v.getD j 0:=by
  intro t
  induction t with
  |zero=>intro j _;rfl
  |succ t ih=>
   intro j hj
   rw[adds,List.getD_eq_getElem?_getD,List.getElem?_set_ne (by omega),← List.getD_eq_getElem?_getD]
   exact ih j (by omega)
 rw[adds,List.take_succ_eq_append_getElem (by rw[List.length_set,hl];exact ht),List.take_set_of_le (Nat.le_refl t),hold t t (Nat.le_refl t)]
 simp
theorem add_l (s v:List Int) (hs8:s.length=8) (hv8:v.length=8) (d:Nat):∀ t,t+d=8→∀ k,nepentheref02_Compress.l1 (k+1+d) s v ((adds v s t).take t) (t:Int)=some (adds v s 8):=by
 induction d with
 |zero=>
  intro t ht k
  obtain rfl:t=8:=by omega
  rw[show k+1+0=k+1 from by omega,nepentheref02_Compress.l1,if_neg (by decide),List.take_of_length_le (by rw[adds_length _ _ hv8];omega)]
 |succ d ih=>
  intro t ht k
  have hnext:=ih (t+1) (by omega) k
  have hlen:((adds v s t).take t).length=t:=by rw[List.length_take,adds_length _ _ hv8];omega
  rw[take_adds v s hv8 t (by omega),show ((t+1:Nat):Int)=(t:Int)+1 from by omega] at hnext
  have hw1:wrap64 ((t:Int)+1)=(t:Int)+1:=w64 _ (by omega) (by omega)
  have hv:rd v (t:Int)=v.getD t 0:=by unfold rd;rw[Int.toNat_natCast]
  have hs:rd s (t:Int)=s.getD t 0:=by unfold rd;rw[Int.toNat_natCast]
  rw[show k+1+(d+1)=(k+1+d)+1 from by omega,nepentheref02_Compress.l1,if_pos (by omega),if_pos (by omega),if_pos (by rw[hv8];omega),if_pos (by rw[hs8];omega),if_pos (by rw[hlen];omega),hw1,hv,hs]
  exact hnext
theorem compress_eq (s b:List Int) (hs:UL s) (hs8:s.length=8) (hb:∀ x ∈ b,byt x) (hl:b.length=64) (k:Nat):nepentheref02_Compress.f (k+200) s b=some (compL s b):=by
 unfold nepentheref02_Compress.f
 rw[show k+200=(k+80)+120 from by omega,words_eq b hb hl]
 have hc:nepentheref02_Constants.f=some K0:=rfl
 rw[hc]
 simp only[Option.bind_some,List.nil_append,List.length_nil]
 rw[if_pos (by rw[hs8];decide)]
 have h:=comp_l s (ws b 64) hs hs8 (ws_length _ _) 64 0 (by omega) (k+86)
 rw[show k+86+50+64=k+80+120 from by omega] at h
 refine (show _=_ from h).trans ?_
 have h2:=add_l s (vs (ws b 64) s 64) hs8 (vs_length _ _ hs8 _) 8 0 (by omega) (k+86+40)
 rw[show k+86+40+1+8=k+86+49 from by omega] at h2
 exact h2
def littleL:Nat→Int→List Int
 |0,_=>[]
 |d+1,x=>x % 256 :: littleL d (x / 256)
theorem littleL_length (d:Nat) (x:Int):(littleL d x).length=d:=by
 induction d generalizing x with
 |zero=>rfl
 |succ d ih=>rw[littleL,List.length_cons,ih]
theorem little_l (K:Nat) (hK:K≤8) (d:Nat):∀ (i:Nat) (acc:List Int) (x:Int),0≤x→x<18446744073709551616→i+d=K→acc.length≤100+i→∀ k,nepentheref01_Little.l0 (k+d+1) x (K:Int) acc (i:Int)=some (acc++littleL d x):=by
 induction d with
 |zero=>
  intro i acc x _ _ hi _ k
  obtain rfl:i=K:=by omega
  rw[nepentheref01_Little.l0,if_neg (by omega),littleL,List.append_nil]
 |succ d ih=>
  intro i acc x h0 h1 hi ha k
  have e1:IntKind.u64.wrap (Int.tdiv x 256)=x / 256:=by rw[Int.tdiv_eq_ediv_of_nonneg h0];exact wraps_u64 _ (by omega) (by omega)
  have e2:Int.tmod x 256 % 256=x % 256:=by rw[Int.tmod_eq_emod_of_nonneg h0];omega
  rw[show k+(d+1)+1=(k+d+1)+1 from by omega,nepentheref01_Little.l0,if_pos (by omega),if_pos (by omega),if_pos (by omega),e1,e2,w64 _ (by omega) (by omega)]
  have:=ih (i+1) (acc ++ [x % 256]) (x / 256) (by omega) (by omega) (by omega) (by rw[List.length_append,List.length_singleton];omega) k
  rw[show ((i+1:Nat):Int)=(i:Int)+1 from by omega,List.append_assoc] at this
  exact this
theorem little_eq (K:Nat) (hK:K≤8) (x:Int) (h0:0≤x) (h1:x<18446744073709551616) (k:Nat):nepentheref01_Little.f (k+20) x (K:Int)=some (littleL K x):=by
 have:=little_l K hK K 0 [] x h0 h1 (by omega) (by simp) (k+19 - K)
 rw[show k+19 - K+K+1=k+20 from by omega] at this
 exact this
theorem back_l (l:List Int) (hl:l.length<140737488355328) (d:Nat):∀ k,d≤l.length→nepentheref01_Back.l0 (k+d+1) l ((l.drop d).reverse) ((d:Int) - 1)=some l.reverse:=by
 induction d with
 |zero=>
  intro k _
  rw[nepentheref01_Back.l0,if_neg (by omega),List.drop_zero]
 |succ d ih=>
  intro k hd
  have e:rd l ((d:Int))=l[d]'(by omega):=by
   unfold rd
   rw[Int.toNat_natCast,List.getD_eq_getElem?_getD,List.getElem?_eq_getElem (by omega)];rfl
  rw[show ((d+1:Nat):Int) - 1=(d:Int) from by omega,show k+(d+1)+1=(k+d+1)+1 from by omega,nepentheref01_Back.l0,if_pos (by omega),if_pos (by omega),if_pos (by omega),if_pos (by simp;omega),w64 _ (by omega) (by omega),e]
  have:=ih k (by omega)
  rw[List.drop_eq_getElem_cons (by omega),List.reverse_cons] at this
  exact this
theorem back_eq (l:List Int) (hl:l.length<140737488355328) (k:Nat):nepentheref01_Back.f (k+l.length+1) l=some l.reverse:=by
 have:=back_l l hl l.length k (Nat.le_refl _)
 rw[List.drop_length] at this
 unfold nepentheref01_Back.f
 rw[w64 _ (by omega) (by omega)]
 exact this
theorem refBig (K:Nat) (hK:K≤8) (x:Int) (h0:0≤x) (h1:x<18446744073709551616) (k:Nat):nepentheref01_Big.f (k+20) x (K:Int)=some (littleL K x).reverse:=by
 unfold nepentheref01_Big.f
 rw[little_eq K hK x h0 h1]
 simp only[Option.bind_some]
 have:=back_eq (littleL K x) (by rw[littleL_length];omega) (k+19 - K)
 rw[littleL_length,show k+19 - K+K+1=k+20 from by omega] at this
 rw[this]
 rfl
theorem refBig4 (x:Int) (h0:0≤x) (h1:x<18446744073709551616) (k:Nat):nepentheref01_Big.f (k+20) x 4=some (big4 x):=by
 have:=refBig 4 (by decide) x h0 h1 k
 rw[show ((4:Nat):Int)=4 from rfl] at this
 rw[this]
 simp only[littleL,List.reverse_cons,List.reverse_nil,List.nil_append,List.cons_append,big4]
 congr 2
 ·omega
 congr 1;omega
theorem refBig8 (x:Int) (h0:0≤x) (h1:x<18446744073709551616) (k:Nat):nepentheref01_Big.f (k+20) x 8=some (big8 x):=by
 have:=refBig 8 (by decide) x h0 h1 k
 rw[show ((8:Nat):Int)=8 from rfl] at this
 rw[this]
 have e:∀ (n:Int) (m:Int),0<n→0<m→x / n / m=x / (n*m):=fun n m hn hm=>Int.ediv_ediv_of_nonneg (Int.le_of_lt hn)
 simp only[littleL,List.reverse_cons,List.reverse_nil,List.nil_append,List.cons_append,big8]
 rw[e 256 256 (by decide) (by decide),e (256*256) 256 (by decide) (by decide),e (256*256*256) 256 (by decide) (by decide),e (256*256*256*256) 256 (by decide) (by decide),e (256*256*256*256*256) 256 (by decide) (by decide),e (256*256*256*256*256*256) 256 (by decide) (by decide)]
 rfl
theorem fill_l (x:Int) (n:Nat) (hn:n≤65536) (d:Nat):∀ i,i+d=n→∀ k,nepentheref01_Fill.l0 (k+d+1) x (n:Int) (List.replicate i x) (i:Int)=some (List.replicate n x):=by
 induction d with
 |zero=>
  intro i hi k
  obtain rfl:i=n:=by omega
  rw[nepentheref01_Fill.l0,if_neg (by omega)]
 |succ d ih=>
  intro i hi k
  rw[show k+(d+1)+1=(k+d+1)+1 from by omega,nepentheref01_Fill.l0,if_pos (by omega),if_pos (by omega),if_pos (by simp;omega),w64 _ (by omega) (by omega)]
  have:=ih (i+1) (by omega) k
  rw[show ((i+1:Nat):Int)=(i:Int)+1 from by omega,List.replicate_succ'] at this
  exact this
theorem fill_eq (x:Int) (n:Nat) (hn:n≤65536) (k:Nat):nepentheref01_Fill.f (k+n+1) x (n:Int)=some (List.replicate n x):=by
 have:=fill_l x n hn n 0 (by omega) k
 exact this
theorem wrap_len8 (n:Nat):0≤IntKind.u64.wrap (IntKind.u64.wrap (n:Int)*8)∧IntKind.u64.wrap (IntKind.u64.wrap (n:Int)*8)<18446744073709551616:=by
 rw[IntKind.wrap_u64];omega
theorem pad_l (l:List Int) (hl:l.length≤1099511627776) (d:Nat):∀ z,z+d=zerosN l.length→∀ k,nepentheref02_Pad.l0 (k+90+d) l (z:Int)=some (l++tailL l.length):=by
 have hz:=zerosN_lt l.length
 induction d with
 |zero=>
  intro z hzd k
  obtain rfl:z=zerosN l.length:=by omega
  have hmod:Int.tmod (wrap64 ((wrap64 ((l.length:Int)+1))+((zerosN l.length:Nat):Int))) 64=56:=by
   rw[w64 ((l.length:Int)+1) (by omega) (by omega),show (l.length:Int)+1+((zerosN l.length:Nat):Int)=((l.length+1+zerosN l.length:Nat):Int) from by omega,tm_nat _ (by omega),zerosN_mod]
   rfl
  rw[show k+90+0=(k+89)+1 from by omega,nepentheref02_Pad.l0,if_pos hmod]
  simp only[Option.bind_some,List.nil_append,List.length_nil]
  rw[if_pos (by omega),if_pos (by omega)]
  have hf:=fill_eq 0 (zerosN l.length) (by omega) (k+88 - zerosN l.length)
  rw[show k+88 - zerosN l.length+zerosN l.length+1=k+89 from by omega] at hf
  have hw:=wrap_len8 l.length
  have hb:=refBig8 _ hw.1 hw.2 (k+69)
  rw[show k+69+20=k+89 from by omega] at hb
  rw[hf,hb]
  simp only[Option.bind_some]
  rw[if_pos (by simp;omega),if_pos (by simp[big8];omega)]
  simp[tailL]
 |succ d ih=>
  intro z hzd k
  have hmod : ¬ Int.tmod (wrap64 ((wrap64 ((l.length:Int)+1))+(z:Int))) 64=56:=by
   rw[w64 ((l.length:Int)+1) (by omega) (by omega),show (l.length:Int)+1+(z:Int)=((l.length+1+z:Nat):Int) from by omega,tm_nat _ (by omega)]
   have:=zerosN_least l.length z (by omega)
   omega
  rw[show k+90+(d+1)=(k+90+d)+1 from by omega,nepentheref02_Pad.l0,if_neg hmod,w64 _ (by omega) (by omega)]
  have:=ih (z+1) (by omega) k
  rw[show ((z+1:Nat):Int)=(z:Int)+1 from by omega] at this
  exact this
theorem pad_eq (l:List Int) (hl:l.length≤1099511627776) (k:Nat):nepentheref02_Pad.f (k+200) l=some (l++tailL l.length):=by
 have hz:=zerosN_lt l.length
 have:=pad_l l hl (zerosN l.length) 0 (by omega) (k+110 - zerosN l.length)
 rw[show k+110 - zerosN l.length+90+zerosN l.length=k+200 from by omega] at this
 exact this
theorem byt_mod (x:Int):byt (x % 256):=by unfold byt;omega
theorem byt_tail (n:Nat):∀ x ∈ tailL n,byt x:=by
 intro x hx
 rw[tailL,List.mem_cons,List.mem_append] at hx
 rcases hx with rfl | hx | hx
 ·exact ⟨by decide,by decide⟩
 ·rw[List.mem_replicate] at hx
  obtain ⟨_,rfl⟩:=hx
  exact ⟨by decide,by decide⟩
 simp only[big8,List.mem_cons,List.not_mem_nil,or_false] at hx
 rcases hx with rfl | rfl | rfl | rfl | rfl | rfl | rfl | rfl <;> exact byt_mod _
theorem byt_big4 (y:Int):∀ x ∈ big4 y,byt x:=by
 intro x hx
 simp only[big4,List.mem_cons,List.not_mem_nil,or_false] at hx
 rcases hx with rfl | rfl | rfl | rfl <;> exact byt_mod _
theorem byt_out (F:List Int):∀ x ∈ outL F,byt x:=by
 intro x hx
 simp only[outL,List.mem_flatten,List.mem_map] at hx
 obtain ⟨l,⟨y,_,rfl⟩,hx⟩:=hx
 exact byt_big4 _ x hx
theorem byt_sum (L:List Int):∀ x ∈ sumL L,byt x:=byt_out _
theorem UL_H0:UL H0:=by
 intro i
 match i with
 |0=>exact ⟨by decide,by decide⟩
 |1=>exact ⟨by decide,by decide⟩
 |2=>exact ⟨by decide,by decide⟩
 |3=>exact ⟨by decide,by decide⟩
 |4=>exact ⟨by decide,by decide⟩
 |5=>exact ⟨by decide,by decide⟩
 |6=>exact ⟨by decide,by decide⟩
 |7=>exact ⟨by decide,by decide⟩
 |n+8=>exact ⟨Int.le_refl 0,(by show (0:Int)<4294967296;decide)⟩
theorem UL_absorb (k:Nat) (st l:List Int) (h:UL st):UL (absorb k st l):=by
 induction k generalizing st l with
 |zero=>exact h
 |succ k ih=>exact ih _ _ (UL_comp h)
theorem out_l (F:List Int) (hF:F.length=8) (d:Nat):∀ t,t+d=8→∀ k,nepentheref02_Sum.l1 (k+30+d) F (outL (F.take t)) (t:Int)=some (outL F):=by
 induction d with
 |zero=>
  intro t ht k
  obtain rfl:t=8:=by omega
  rw[show k+30+0=(k+29)+1 from by omega,nepentheref02_Sum.l1,if_neg (by decide),List.take_of_length_le (by omega)]
 |succ d ih=>
  intro t ht k
  have hnext:=ih (t+1) (by omega) k
  rw[outL_take F t (by omega),show ((t+1:Nat):Int)=(t:Int)+1 from by omega] at hnext
  have hr:rd F (t:Int)=F.getD t 0:=by unfold rd;rw[Int.toNat_natCast]
  have hb:=refBig4 (IntKind.u64.wrap (F.getD t 0)) (by rw[IntKind.wrap_u64];omega) (by rw[IntKind.wrap_u64];omega) (k+10+d)
  rw[show k+10+d+20=k+30+d from by omega] at hb
  rw[show k+30+(d+1)=(k+30+d)+1 from by omega,nepentheref02_Sum.l1,if_pos (by omega),if_pos (by omega),if_pos (by omega),hr,hb]
  simp only[Option.bind_some]
  have hle:=outL_le (F.take t) 0 (by rw[List.length_take];omega)
  rw[if_pos (by simp only[big4,List.length_cons,List.length_nil];omega),w64 _ (by omega) (by omega)]
  exact hnext
theorem sum_l (P:List Int) (hP:∀ x ∈ P,byt x) (hPl:P.length≤281474976710656) (m:Nat) (hm:P.length=64*m) (d:Nat):∀ j,j+d=m→∀ k,nepentheref02_Sum.l0 (k+300+d) P (absorb j H0 P) ((64*j:Nat):Int)=some (outL (absorb m H0 P)):=by
 induction d with
 |zero=>
  intro j hj k
  obtain rfl:j=m:=by omega
  rw[show k+300+0=(k+299)+1 from by omega,nepentheref02_Sum.l0,if_neg (by rw[w64 _ (by omega) (by omega)];omega)]
  have:=out_l (absorb j H0 P) (absorb_length _ _ _ rfl) 8 0 (by omega) (k+261)
  rw[show k+261+30+8=k+299 from by omega] at this
  exact this
 |succ d ih=>
  intro j hj k
  have hnext:=ih (j+1) (by omega) k
  have hw:wrap64 (((64*j:Nat):Int)+64)=((64*(j+1):Nat):Int):=by rw[w64 _ (by omega) (by omega)];omega
  have hblk:(P.take (64*(j+1))).drop (64*j)=(P.drop (64*j)).take 64:=by
   rw[List.drop_take];congr 1;omega
  have hc:=compress_eq (absorb j H0 P) ((P.drop (64*j)).take 64) (UL_absorb _ _ _ UL_H0) (absorb_length _ _ _ rfl) (fun x hx=>hP x (List.mem_of_mem_drop (List.mem_of_mem_take hx))) (by rw[List.length_take,List.length_drop];omega) (k+100+d)
  rw[show k+100+d+200=k+300+d from by omega] at hc
  rw[show k+300+(d+1)=(k+300+d)+1 from by omega,nepentheref02_Sum.l0,hw,if_pos (by omega),if_pos (by omega),if_pos (by omega),Int.toNat_natCast,Int.toNat_natCast,hblk,hc]
  simp only[Option.bind_some]
  rw[absorb_succ] at hnext
  exact hnext
theorem sum_eq (l:List Int) (hl:∀ x ∈ l,byt x) (hlen:l.length≤1099511627776) (k:Nat):nepentheref02_Sum.f (k+400+l.length) l=some (sumL l):=by
 have hmod:=tail_mod l.length l.length rfl
 have htl:=tail_length l.length
 have hz:=zerosN_lt l.length
 have hP:(l++tailL l.length).length=64*((l++tailL l.length).length / 64):=by rw[List.length_append];omega
 unfold nepentheref02_Sum.f
 rw[show k+400+l.length=(k+200+l.length)+200 from by omega,pad_eq l hlen]
 have hf:nepentheref02_First.f=some H0:=rfl
 rw[hf]
 simp only[Option.bind_some]
 have:=sum_l (l++tailL l.length) (fun x hx=>by exact (List.mem_append.1 hx).elim (hl x) (byt_tail _ x)) (by rw[List.length_append];omega) _ hP ((l++tailL l.length).length / 64) 0 (by omega) (k+100+l.length - (l++tailL l.length).length / 64)
 rw[show k+100+l.length - (l++tailL l.length).length / 64+300+(l++tailL l.length).length / 64=k+200+l.length+200 from by rw[List.length_append];omega] at this
 exact this
theorem byt_wf {l:List Int} (h:∀ x ∈ l,(Lit.int .u8 x).wf=true):∀ x ∈ l,byt x:=fun x hx=>by
 have:=h x hx
 simp[Lit.wf,IntKind.min,IntKind.max,IntKind.signed,IntKind.bits] at this
 unfold byt;omega
end Go.Proofs.Ytbajioiiaamokaa.Own
