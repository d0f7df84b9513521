/- PlB, pruned (slim.py). -/
import Derived.Test.YtbajioiiaamokaaZO33
namespace Go.Proofs.Ytbajioiiaamokaa.Own
open Go.RowKit Go.Proofs.Ytbajioiiaamokaa.Arr Go.Proofs.Ytbajioiiaamokaa.QB Go.Proofs.YtbajioiiaamokaaW.PrintWords Go.Proofs.YtbajioiiaamokaaW.PrintLast Go.Proofs.YtbajioiiaamokaaW.PrintMore
set_option linter.unusedVariables false
set_option linter.unusedSimpArgs false
theorem fill128r (k:Nat):nepentheref01_Fill.f (k+200) 0 128=some (zL 128):=by
 have:=fill_eq 0 128 (by decide) (k+71)
 exact this
def slFit (x:SlT):Prop:=0≤x.size∧x.size<4294967296∧0≤x.epoch∧x.epoch<18446744073709551616∧0≤x.count∧x.count<18446744073709551616∧x.wrap.length≤1000000
theorem slBytes_eq (x:SlT) (h:slFit x) (k:Nat):nepentheref17_Bytes.f (k+200) x.used x.size x.epoch x.count x.wrap=some (slBytes x):=by
 obtain ⟨h1,h2,h3,h4,h5,h6,h7⟩:=h
 unfold nepentheref17_Bytes.f slBytes
 by_cases hu:x.used=true
 ·have b4:=refBig4 x.size h1 (by omega) (k+180)
  have b8:=refBig8 x.epoch h3 h4 (k+180)
  have b9:=refBig8 x.count h5 h6 (k+180)
  rw[show k+180+20=k+200 by omega] at b4 b8 b9
  rw[if_pos hu,if_pos hu,wraps_u64 _ h1 (by omega),b4,b8,b9,big4_bigL,big8_bigL _ h3 h4,big8_bigL _ h5 h6]
  simp only[Option.bind_some,List.length_append,bigL_length,List.length_cons,List.length_nil]
  rw[if_pos (by omega),if_pos (by omega),if_pos (by omega),if_pos (by omega)]
 rw[if_neg hu,if_neg hu,fill128r];rfl
def refX (l:List Int):SlT:=if l.getD 0 0=1 then rdSl l else slZero
theorem rdSl_fit (l:List Int) (hl:l.length=128) (hb:∀ x ∈ l,byt x):slFit (rdSl l):=by
 have q:∀ lo hi:Nat,hi≤128→((l.take hi).drop lo).length=hi - lo:=fun lo hi h=>by rw[List.length_drop,List.length_take];omega
 have m:∀ lo hi:Nat,∀ x ∈ (l.take hi).drop lo,byt x:=fun lo hi x hx=>hb x (List.mem_of_mem_take (List.mem_of_mem_drop hx))
 have a:=val_bound 4 ((l.take 8).drop 4) (q 4 8 (by omega)) (m 4 8)
 have b:=val_bound 8 ((l.take 16).drop 8) (q 8 16 (by omega)) (m 8 16)
 have c:=val_bound 8 ((l.take 24).drop 16) (q 16 24 (by omega)) (m 16 24)
 have e4:(256:Int) ^ 4=4294967296:=by decide
 have e8:(256:Int) ^ 8=18446744073709551616:=by decide
 rw[e4] at a
 rw[e8] at b c
 exact ⟨a.1,a.2,b.1,b.2,c.1,c.2,by show (l.drop 24).length≤1000000;rw[List.length_drop];omega⟩
theorem slZero_fit:slFit slZero:=⟨by decide,by decide,by decide,by decide,by decide,by decide,by decide⟩
theorem refX_fit (l:List Int) (hl:l.length=128) (hb:∀ x ∈ l,byt x):slFit (refX l):=by
 unfold refX;split
 ·exact rdSl_fit l hl hb
 exact slZero_fit
theorem cut3 (l:List Int) (a b c:Nat) (h1:a≤b) (h2:b≤c):(l.take c).drop a=(l.take b).drop a++(l.take c).drop b:=by
 have e:(l.take c).take b=l.take b:=by rw[List.take_take];congr 1;omega
 calc (l.take c).drop a=((l.take c).take b++(l.take c).drop b).drop a:=by rw[List.take_append_drop]
  _=(l.take b++(l.take c).drop b).drop a:=by rw[e]
  _=_:=by
   by_cases hl:a≤(l.take b).length
   ·rw[List.drop_append_of_le_length hl]
   rw[List.length_take] at hl
   have hlb:l.length<a:=by omega
   rw[List.drop_eq_nil_of_le (by rw[List.length_append,List.length_take,List.length_drop,List.length_take];omega),List.drop_eq_nil_of_le (by rw[List.length_take];omega),List.drop_eq_nil_of_le (by rw[List.length_take];omega)]
   rfl
theorem rdSl_bytes (l:List Int) (hl:l.length=128) (hb:∀ x ∈ l,byt x):slBytes (rdSl l)=[1,0,0,0]++l.drop 4:=by
 have q:∀ lo hi:Nat,hi≤128→((l.take hi).drop lo).length=hi - lo:=fun lo hi h=>by rw[List.length_drop,List.length_take];omega
 have m:∀ lo hi:Nat,∀ x ∈ (l.take hi).drop lo,byt x:=fun lo hi x hx=>hb x (List.mem_of_mem_take (List.mem_of_mem_drop hx))
 unfold slBytes rdSl
 rw[if_pos rfl]
 simp only
 rw[bigL_val 4 _ (q 4 8 (by omega)) (m 4 8),bigL_val 8 _ (q 8 16 (by omega)) (m 8 16),bigL_val 8 _ (q 16 24 (by omega)) (m 16 24)]
 have e1:l.drop 4=(l.take 8).drop 4++((l.take 16).drop 8++((l.take 24).drop 16++l.drop 24)):=by
  have f:l.take 128=l:=List.take_of_length_le (by omega)
  have g1:=cut3 l 4 8 128 (by omega) (by omega)
  have g2:=cut3 l 8 16 128 (by omega) (by omega)
  have g3:=cut3 l 16 24 128 (by omega) (by omega)
  rw[f] at g1 g2 g3
  rw[g1,g2,g3]
 rw[e1]
 simp only[List.append_assoc]
theorem take4_of (l:List Int) (hl:4≤l.length):l.take 4=[l.getD 0 0,l.getD 1 0,l.getD 2 0,l.getD 3 0]:=by
 match l,hl with
 |a :: b :: c :: d :: r,_=>rfl
theorem refSl_eq (l:List Int) (hl:l.length=128) (hb:∀ x ∈ l,byt x):(if slRight (refX l)=true∧slBytes (refX l)=l then some (refX l) else none)=slRead l:=by
 have h4:=take4_of l (by omega)
 have hbd:∀ i,i<128→byt (l.getD i 0):=fun i hi=>by
  rw[List.getD_eq_getElem?_getD,List.getElem?_eq_getElem (by omega)];exact hb _ (List.getElem_mem _)
 obtain ⟨a0,a1⟩:=hbd 0 (by omega)
 obtain ⟨b0,b1⟩:=hbd 1 (by omega)
 obtain ⟨c0,c1⟩:=hbd 2 (by omega)
 obtain ⟨d0,d1⟩:=hbd 3 (by omega)
 have hv:valL (l.take 4)=l.getD 0 0*16777216+l.getD 1 0*65536+l.getD 2 0*256+l.getD 3 0:=by
  rw[h4];simp[valL];omega
 have hsplit:l=l.take 4++l.drop 4:=(List.take_append_drop 4 l).symm
 by_cases hz:l=zL 128
 ·have e0:l.getD 0 0=0:=by rw[hz];rfl
  have ex:refX l=slZero:=by unfold refX;rw[if_neg (by omega)]
  have e2:slRead l=some slZero:=by unfold slRead;rw[if_pos hz]
  rw[ex,e2,if_pos ⟨by decide,by rw[hz];rfl⟩]
 by_cases h1:l.getD 0 0=1
 ·have ex:refX l=rdSl l:=by unfold refX;rw[if_pos h1]
  have e2:slRead l=if valL (l.take 4)=16777216∧slRight (rdSl l)=true then some (rdSl l) else none:=by unfold slRead;rw[if_neg hz]
  have e3:slBytes (rdSl l)=l↔valL (l.take 4)=16777216:=by
   rw[rdSl_bytes l hl hb]
   constructor
   ·intro h
    have:l.take 4=[1,0,0,0]:=by rw[← h];rfl
    rw[this];decide
   intro h
   have g1:l.getD 1 0=0:=by omega
   have g2:l.getD 2 0=0:=by omega
   have g3:l.getD 3 0=0:=by omega
   rw[g1,g2,g3,h1] at h4
   rw[← h4];exact List.take_append_drop 4 l
  rw[ex,e2]
  by_cases hr:slRight (rdSl l)=true
  ·by_cases hq:valL (l.take 4)=16777216
   ·rw[if_pos ⟨hr,e3.2 hq⟩,if_pos ⟨hq,hr⟩]
   rw[if_neg (fun h=>hq (e3.1 h.2)),if_neg (fun h=>hq h.1)]
  rw[if_neg (fun h=>hr h.1),if_neg (fun h=>hr h.2)]
 have ex:refX l=slZero:=by unfold refX;rw[if_neg h1]
 have e2:slRead l=none:=by
  unfold slRead
  rw[if_neg hz,if_neg (fun h=>?_)]
  have:=h.1
  rw[hv] at this
  omega
 rw[ex,e2,if_neg (fun h=>hz h.2.symm)]
end Go.Proofs.Ytbajioiiaamokaa.Own
