/- DgA, pruned (slim.py). -/
import Derived.Test.YtiogdomjmjiahaaZH11
import Derived.Test.YtiogdomjmjiahaaZH12
import Derived.Test.YtiogdomjmjiahaaZH9
namespace Go.Proofs.Ytiogdomjmjiahaa.Own
open Go.RowKit Go.Proofs.Ytiogdomjmjiahaa.Arr Go.Proofs.Ytiogdomjmjiahaa.QA Go.Proofs.Ytiogdomjmjiahaa.QB Go.Proofs.YtiogdomjmjiahaaW.PrintWords Go.Proofs.YtiogdomjmjiahaaW.PrintLast Go.Proofs.YtiogdomjmjiahaaW.PrintMore
set_option linter.unusedVariables false
set_option linter.unusedSimpArgs false
def rv (l:List Int) (i:Nat):List Int:=(List.range l.length).map fun p=>if p<i∨l.length - i≤p then l.getD (l.length - 1 - p) 0 else l.getD p 0
theorem rv_length (l:List Int) (i:Nat):(rv l i).length=l.length:=by simp[rv]
theorem rv_get (l:List Int) (i p:Nat) (h:p<l.length):(rv l i).getD p 0=if p<i∨l.length - i≤p then l.getD (l.length - 1 - p) 0 else l.getD p 0:=by
 simp[rv,List.getD_eq_getElem?_getD,List.getElem?_map,List.getElem?_range h]
theorem ext_getD {a b:List Int} (hl:a.length=b.length) (h:∀ p,p<a.length→a.getD p 0=b.getD p 0):a=b:=by
 apply List.ext_getElem hl
 intro p h1 h2
 have:=h p h1
 rw[List.getD_eq_getElem?_getD,List.getD_eq_getElem?_getD,List.getElem?_eq_getElem h1,List.getElem?_eq_getElem h2] at this
 exact this
theorem set_getD (l:List Int) (i p:Nat) (v:Int) (h:p<l.length):(l.set i v).getD p 0=if p=i then v else l.getD p 0:=by
 rw[List.getD_eq_getElem?_getD,List.getElem?_set]
 by_cases e:i=p
 ·subst e
  rw[if_pos rfl,if_pos h,if_pos rfl];rfl
 rw[if_neg e,if_neg (fun h=>e h.symm),← List.getD_eq_getElem?_getD]
theorem rv_zero (l:List Int):rv l 0=l:=by
 refine ext_getD (rv_length _ _) (fun p hp=>?_)
 rw[rv_length] at hp
 rw[rv_get l 0 p hp,if_neg (by omega)]
theorem reverse_getD (l:List Int) (p:Nat) (h:p<l.length):l.reverse.getD p 0=l.getD (l.length - 1 - p) 0:=by
 rw[List.getD_eq_getElem?_getD,List.getElem?_reverse h,← List.getD_eq_getElem?_getD]
theorem rv_end (l:List Int) (i:Nat) (h:l.length≤2*i+1):rv l i=l.reverse:=by
 refine ext_getD (by rw[rv_length,List.length_reverse]) (fun p hp=>?_)
 rw[rv_length] at hp
 rw[rv_get l i p hp,reverse_getD l p hp]
 by_cases h1:p<i∨l.length - i≤p
 ·rw[if_pos h1]
 rw[if_neg h1]
 congr 1
 omega
theorem rv_step (l:List Int) (i:Nat) (h:2*i+1<l.length):((rv l i).set i ((rv l i).getD (l.length - 1 - i) 0)).set (l.length - 1 - i) ((rv l i).getD i 0)=rv l (i+1):=by
 refine ext_getD (by simp only[List.length_set,rv_length]) (fun p hp=>?_)
 simp only[List.length_set,rv_length] at hp
 rw[set_getD _ _ _ _ (by simp only[List.length_set,rv_length];exact hp),set_getD _ _ _ _ (by rw[rv_length];exact hp),rv_get l (i+1) p hp,rv_get l i p hp,rv_get l i (l.length - 1 - i) (by omega),rv_get l i i (by omega)]
 by_cases e1:p=l.length - 1 - i
 ·subst e1
  rw[if_pos rfl,if_neg (by omega),if_pos (by omega)]
  congr 1;omega
 rw[if_neg e1]
 by_cases e2:p=i
 ·subst e2
  rw[if_pos rfl,if_neg (by omega),if_pos (by omega)]
 rw[if_neg e2]
 by_cases e3:p<i∨l.length - i≤p
 ·rw[if_pos e3,if_pos (by omega)]
 rw[if_neg e3,if_neg (by omega)]
theorem reverse_l (l:List Int) (hl:l.length≤1000000) (d:Nat):∀ i,i≤l.length→l.length≤2*(i+d)+1→∀ k,slices_Reverse_byte_byte.l0 (k+d+1) (rv l i) (i:Int) ((l.length:Int) - 1 - i)=some l.reverse:=by
 induction d with
 |zero=>
  intro i hi hd k
  rw[slices_Reverse_byte_byte.l0,if_neg (by omega),rv_end l i (by omega)]
 |succ d ih=>
  intro i hi hd k
  by_cases h:2*i+1<l.length
  ·have hrd:∀ p:Nat,rd (rv l i) (p:Int)=(rv l i).getD p 0:=fun p=>rd_nat _ _
   have e1:(l.length:Int) - 1 - i=((l.length - 1 - i:Nat):Int):=by omega
   have hw1:wrap64 ((i:Int)+1)=((i+1:Nat):Int):=by rw[w64 _ (by omega) (by omega)];omega
   have hw2:wrap64 (((l.length - 1 - i:Nat):Int) - 1)=(l.length:Int) - 1 - ((i+1:Nat):Int):=by rw[w64 _ (by omega) (by omega)];omega
   rw[show k+(d+1)+1=(k+d+1)+1 from by omega,slices_Reverse_byte_byte.l0,if_pos (by omega),if_pos (by omega),if_pos (by rw[rv_length];omega),if_pos (by omega),if_pos (by rw[rv_length];omega),e1,hrd,hrd,hw1,hw2,Int.toNat_natCast,Int.toNat_natCast,rv_step l i h]
   exact ih (i+1) (by omega) (by omega) k
  rw[show k+(d+1)+1=(k+d+1)+1 from by omega,slices_Reverse_byte_byte.l0,if_neg (by omega),rv_end l i (by omega)]
theorem reverse_eq (l:List Int) (hl:l.length≤1000000) (k:Nat):slices_Reverse_byte_byte.f (k+l.length+1) l=some l.reverse:=by
 have:=reverse_l l hl l.length 0 (by omega) (by omega) k
 rw[rv_zero] at this
 unfold slices_Reverse_byte_byte.f
 rw[w64 _ (by omega) (by omega)]
 rw[show ((0:Nat):Int)=0 from rfl,Int.sub_zero] at this
 exact this
def digM:Nat→Nat→List Int
 |0,_=>[]
 |f+1,m=>if m=0 then [] else (48+m % 10:Nat) :: digM f (m / 10)
theorem digM_len (f m:Nat):(digM f m).length≤f:=by
 induction f generalizing m with
 |zero=>simp[digM]
 |succ f ih=>
  rw[digM]
  by_cases h:m=0
  ·rw[if_pos h];simp
  rw[if_neg h];have:=ih (m / 10);simp only[List.length_cons];omega
def decL (n:Nat):List Int:=(((48+n % 10:Nat):Int) :: digM 19 (n / 10)).reverse
def decS (n:Nat):ByteArray:=strOfNums (decL n)
theorem decL_len (n:Nat):(decL n).length≤20:=by
 have:=digM_len 19 (n / 10)
 simp only[decL,List.length_reverse,List.length_cons];omega
theorem digits_l (f:Nat):∀ (n:Nat) (acc:List Int),n<10 ^ (f+1)→n<18446744073709551616→acc.length+f≤50→∀ k,health_digits.l0 (k+60+f+1) (n:Int) acc=some (strOfNums (acc++digM f (n / 10)).reverse):=by
 induction f with
 |zero=>
  intro n acc h1 h2 h3 k
  rw[health_digits.l0,if_neg (by omega),digM,List.append_nil]
  have:=reverse_eq acc (by omega) (k+59 - acc.length)
  rw[show k+59 - acc.length+acc.length+1=k+60+0 from by omega] at this
  rw[this];rfl
 |succ f ih=>
  intro n acc h1 h2 h3 k
  by_cases h:n<10
  ·rw[health_digits.l0,if_neg (by omega),digM,if_pos (by omega),List.append_nil]
   have:=reverse_eq acc (by omega) (k+60+f - acc.length)
   rw[show k+60+f - acc.length+acc.length+1=k+60+(f+1) from by omega] at this
   rw[this];rfl
  have e1:IntKind.u64.wrap (Int.tdiv (n:Int) 10)=((n / 10:Nat):Int):=by rw[Int.tdiv_eq_ediv_of_nonneg (by omega),wraps_u64 _ (by omega) (by omega)];omega
  have e2:(IntKind.u64.wrap (48+Int.tmod ((n / 10:Nat):Int) 10)) % 256=((48+n / 10 % 10:Nat):Int):=by rw[Int.tmod_eq_emod_of_nonneg (by omega),wraps_u64 _ (by omega) (by omega)];omega
  have hp:10 ^ (f+1+1)=10 ^ (f+1)*10:=Nat.pow_succ 10 (f+1)
  have hq:n / 10<10 ^ (f+1):=by rw[Nat.div_lt_iff_lt_mul (by decide)];omega
  have:=ih (n / 10) (acc ++ [((48+n / 10 % 10:Nat):Int)]) hq (by omega) (by simp only[List.length_append,List.length_singleton];omega) k
  rw[show k+60+(f+1)+1=(k+60+f+1)+1 from by omega,health_digits.l0,if_pos (by omega),if_pos (by omega),e1,e2,this,digM,if_neg (by omega),List.append_assoc]
  rfl
theorem digits_eq (n:Nat) (h:n<18446744073709551616) (k:Nat):health_digits.f (k+80) (n:Int)=some (decS n):=by
 have e2:(IntKind.u64.wrap (48+Int.tmod (n:Int) 10)) % 256=((48+n % 10:Nat):Int):=by rw[Int.tmod_eq_emod_of_nonneg (by omega),wraps_u64 _ (by omega) (by omega)];omega
 have:=digits_l 19 n [((48+n % 10:Nat):Int)] (by omega) h (by simp) k
 unfold health_digits.f
 rw[e2]
 exact this
theorem ten_extract (d:Nat) (h:d<10):(⟨#[48,49,50,51,52,53,54,55,56,57]⟩:ByteArray).extract d (d+1)=strOfNums [((48+d:Nat):Int)]:=by
 have:d=0∨d=1∨d=2∨d=3∨d=4∨d=5∨d=6∨d=7∨d=8∨d=9:=by omega
 rcases this with rfl | rfl | rfl | rfl | rfl | rfl | rfl | rfl | rfl | rfl <;> rfl
theorem str_app (a b:List Int):strOfNums (a++b)=strOfNums a++strOfNums b:=by
 apply ByteArray.ext
 simp[strOfNums]
theorem refDigits_round (n:Nat) (h:n<18446744073709551616) (i:Nat) (hi:i<20) (hn:0<n∨i=0) (L:List Int) (hL:L.length≤100) (k:Nat) :
  nepentheref32_Digits.l0 (k+1) (n:Int) (strOfNums L) (i:Int)=nepentheref32_Digits.l0 k ((n / 10:Nat):Int) (strOfNums (((48+n % 10:Nat):Int) :: L)) ((i+1:Nat):Int):=by
 have hm:Int.tmod (n:Int) 10=((n % 10:Nat):Int):=by rw[Int.tmod_eq_emod_of_nonneg (by omega)];omega
 have hw:wrap64 ((n % 10:Nat):Int)=((n % 10:Nat):Int):=w64 _ (by omega) (by omega)
 have hw2:wrap64 (((n % 10:Nat):Int)+1)=((n % 10+1:Nat):Int):=by rw[w64 _ (by omega) (by omega)];omega
 have e1:IntKind.u64.wrap (Int.tdiv (n:Int) 10)=((n / 10:Nat):Int):=by rw[Int.tdiv_eq_ediv_of_nonneg (by omega),wraps_u64 _ (by omega) (by omega)];omega
 have hw3:wrap64 ((i:Int)+1)=((i+1:Nat):Int):=by rw[w64 _ (by omega) (by omega)];omega
 have hx:=ten_extract (n % 10) (by omega)
 have hc:strOfNums (((48+n % 10:Nat):Int) :: L)=strOfNums [((48+n % 10:Nat):Int)]++strOfNums L:=str_app [_] L
 rw[nepentheref32_Digits.l0,if_pos (by omega),hm,hw,hw2,e1,hw3,Int.toNat_natCast,Int.toNat_natCast,hx,← hc]
 have hs:(strOfNums [((48+n % 10:Nat):Int)]).size+(strOfNums L).size≤9223372036854775807:=by rw[strOfNums_size,strOfNums_size,List.length_singleton];omega
 by_cases h0:0<n
 ·rw[if_pos (by omega),if_pos (by omega),if_pos (by omega),if_pos (by omega),if_pos hs]
 rw[if_neg (by omega),if_pos (by omega),if_pos (by omega),if_pos (by omega),if_pos (by omega),if_pos hs]
theorem refDigits_l (d:Nat):∀ (n:Nat) (i:Nat) (L:List Int),n<18446744073709551616→1≤i→i+d=20→L.length≤i→∀ k,nepentheref32_Digits.l0 (k+d+1) (n:Int) (strOfNums L) (i:Int)=some (strOfNums ((digM d n).reverse++L)):=by
 induction d with
 |zero=>
  intro n i L h h1 hi hL k
  rw[nepentheref32_Digits.l0,if_neg (by omega),digM];rfl
 |succ d ih=>
  intro n i L h h1 hi hL k
  rw[show k+(d+1)+1=(k+d+1)+1 from by omega]
  by_cases h0:n=0
  ·subst h0
   have hw3:wrap64 ((i:Int)+1)=((i+1:Nat):Int):=by rw[w64 _ (by omega) (by omega)];omega
   have e1:IntKind.u64.wrap (Int.tdiv ((0:Nat):Int) 10)=((0:Nat):Int):=by decide
   rw[nepentheref32_Digits.l0,if_pos (by omega),if_neg (by omega),if_neg (by omega),hw3,e1,ih 0 (i+1) L (by omega) (by omega) (by omega) (by omega) k,digM,if_pos rfl]
   have:digM d 0=[]:=by cases d <;> simp[digM]
   rw[this]
  rw[refDigits_round n h i (by omega) (.inl (by omega)) L (by omega),ih (n / 10) (i+1) _ (by omega) (by omega) (by omega) (by simp only[List.length_cons];omega) k,digM,if_neg h0,List.reverse_cons,List.append_assoc]
  rfl
theorem refDigits_eq (n:Nat) (h:n<18446744073709551616) (k:Nat):nepentheref32_Digits.f (k+30) (n:Int)=some (decS n):=by
 unfold nepentheref32_Digits.f
 have e:(⟨#[]⟩:ByteArray)=strOfNums []:=rfl
 have h1:=refDigits_round n h 0 (by decide) (.inr rfl) [] (by simp) (k+29)
 have h2:=refDigits_l 19 (n / 10) 1 [((48+n % 10:Nat):Int)] (by omega) (by decide) (by decide) (by simp) (k+9)
 rw[show k+9+19+1=k+29 from by omega] at h2
 rw[e]
 refine h1.trans (h2.trans ?_)
 rw[decS,decL,List.reverse_cons]
def numLs (n:Int):List Int:=if n<0 then 45 :: decL (-n).toNat else decL n.toNat
def numS (n:Int):ByteArray:=strOfNums (numLs n)
theorem numLs_len (n:Int):(numLs n).length≤21:=by
 unfold numLs
 by_cases h:n<0
 ·rw[if_pos h];have:=decL_len (-n).toNat;simp only[List.length_cons];omega
 rw[if_neg h];have:=decL_len n.toNat;omega
theorem minus_eq (L:List Int):(⟨#[45]⟩:ByteArray)++strOfNums L=strOfNums (45 :: L):=(str_app [45] L).symm
theorem number_eq (n:Int) (h0 : -9223372036854775808≤n) (h1:n<9223372036854775808) (k:Nat):health_Number.f (k+80) n=some (numS n):=by
 unfold health_Number.f numS numLs
 by_cases h:n<0
 ·have e:IntKind.u64.wrap (-(IntKind.u64.wrap n))=(((-n).toNat:Nat):Int):=by rw[IntKind.wrap_u64,IntKind.wrap_u64];omega
  rw[if_pos h,if_pos h,e,digits_eq _ (by omega),Option.bind_some,if_pos (by have:=decL_len (-n).toNat;rw[decS,strOfNums_size];omega),decS,minus_eq]
 have e:IntKind.u64.wrap n=((n.toNat:Nat):Int):=by rw[IntKind.wrap_u64];omega
 rw[if_neg h,if_neg h,e,digits_eq _ (by omega),Option.bind_some];rfl
theorem refNumber_eq (n:Int) (h0 : -9223372036854775808≤n) (h1:n<9223372036854775808) (k:Nat):nepentheref32_Number.f (k+30) n=some (numS n):=by
 unfold nepentheref32_Number.f numS numLs
 by_cases h:n<0
 ·have e:IntKind.u64.wrap ((IntKind.u64.wrap (wrap64 (-(wrap64 (n+1)))))+1)=(((-n).toNat:Nat):Int):=by
   rw[w64 (n+1) (by omega) (by omega),w64 (-(n+1)) (by omega) (by omega),IntKind.wrap_u64,IntKind.wrap_u64];omega
  rw[if_pos h,if_pos h,e,refDigits_eq _ (by omega),Option.bind_some,if_pos (by have:=decL_len (-n).toNat;rw[decS,strOfNums_size];omega),decS,minus_eq]
 have e:IntKind.u64.wrap n=((n.toNat:Nat):Int):=by rw[IntKind.wrap_u64];omega
 rw[if_neg h,if_neg h,e,refDigits_eq _ (by omega),Option.bind_some];rfl
end Go.Proofs.Ytiogdomjmjiahaa.Own
