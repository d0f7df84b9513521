/- PlA, pruned (slim.py). -/
import Derived.Test.YtbajioiiaamokaaZO30
import Derived.Test.YtbajioiiaamokaaZO26
namespace Go.Proofs.Ytbajioiiaamokaa.Own
open Go.RowKit Go.Proofs.Ytbajioiiaamokaa.Arr Go.Proofs.Ytbajioiiaamokaa.QB Go.Proofs.YtbajioiiaamokaaW.PrintWords Go.Proofs.YtbajioiiaamokaaW.PrintLast Go.Proofs.YtbajioiiaamokaaW.PrintMore
set_option linter.unusedVariables false
set_option linter.unusedSimpArgs false
def valL (l:List Int):Int:=l.foldl (fun n x=>n*256+x) 0
theorem pow256 {n m:Nat} (h:n≤m):(256:Int) ^ n≤256 ^ m:=by
 have h1:256 ^ n≤256 ^ m:=Nat.pow_le_pow_right (by decide) h
 have e:∀ k:Nat,((256 ^ k:Nat):Int)=(256:Int) ^ k:=fun k=>by rw[Int.natCast_pow];rfl
 rw[← e n,← e m]
 omega
theorem valL_snoc (l:List Int) (x:Int):valL (l ++ [x])=valL l*256+x:=by simp[valL]
theorem snoc_cases {α:Type} (l:List α):l=[]∨∃ l' x,l=l' ++ [x]:=by
 rcases l.eq_nil_or_concat with h | ⟨l',x,h⟩
 ·exact .inl h
 exact .inr ⟨l',x,by simpa using h⟩
theorem val_bound (n:Nat):∀ l:List Int,l.length=n→(∀ x ∈ l,byt x)→0≤valL l∧valL l<256 ^ n:=by
 induction n with
 |zero=>
  intro l hl _
  obtain rfl:=List.length_eq_zero_iff.1 hl
  exact ⟨by decide,by decide⟩
 |succ n ih=>
  intro l hl hb
  rcases snoc_cases l with rfl | ⟨l',x,rfl⟩
  ·simp at hl
  have hl':l'.length=n:=by simpa using hl
  have:=ih l' hl' (fun y hy=>hb y (List.mem_append_left _ hy))
  obtain ⟨h0,h1⟩:=hb x (by simp)
  rw[valL_snoc,Int.pow_succ]
  generalize valL l'=v at *
  generalize (256:Int) ^ n=p at *
  omega
theorem numL_snoc (l:List Int) (x:Int):numL (l ++ [x])=numStep (numL l) x:=by simp[numL]
theorem numL_val (n:Nat):∀ l:List Int,l.length=n→n≤8→(∀ x ∈ l,byt x)→numL l=valL l:=by
 induction n with
 |zero=>
  intro l hl _ _
  obtain rfl:=List.length_eq_zero_iff.1 hl
  rfl
 |succ n ih=>
  intro l hl h8 hb
  rcases snoc_cases l with rfl | ⟨l',x,rfl⟩
  ·simp at hl
  have hl':l'.length=n:=by simpa using hl
  have hb':∀ y ∈ l',byt y:=fun y hy=>hb y (List.mem_append_left _ hy)
  have e:=ih l' hl' (by omega) hb'
  obtain ⟨h0,h1⟩:=val_bound n l' hl' hb'
  have hp:(256:Int) ^ n≤256 ^ 7:=pow256 (by omega)
  have h7:(256:Int) ^ 7=72057594037927936:=by decide
  rw[numL_snoc,valL_snoc,e]
  exact numStep_eq _ x h0 (by omega) (hb x (by simp))
def bigL (k:Nat) (x:Int):List Int:=(littleL k x).reverse
theorem bigL_length (k:Nat) (x:Int):(bigL k x).length=k:=by simp[bigL,littleL_length]
theorem bigL_succ (k:Nat) (x:Int):bigL (k+1) x=bigL k (x / 256) ++ [x % 256]:=by simp[bigL,littleL]
theorem bigL_val (n:Nat):∀ l:List Int,l.length=n→(∀ x ∈ l,byt x)→bigL n (valL l)=l:=by
 induction n with
 |zero=>
  intro l hl _
  obtain rfl:=List.length_eq_zero_iff.1 hl
  rfl
 |succ n ih=>
  intro l hl hb
  rcases snoc_cases l with rfl | ⟨l',x,rfl⟩
  ·simp at hl
  have hl':l'.length=n:=by simpa using hl
  have e:=ih l' hl' (fun y hy=>hb y (List.mem_append_left _ hy))
  obtain ⟨h0,h1⟩:=hb x (by simp)
  rw[valL_snoc,bigL_succ,show (valL l'*256+x) / 256=valL l' by omega,show (valL l'*256+x) % 256=x by omega,e]
theorem big4_bigL (x:Int):big4 x=bigL 4 x:=by
 simp only[bigL,littleL,List.reverse_cons,List.reverse_nil,List.nil_append,List.cons_append,big4]
 congr 1
 ·omega
 congr 1;omega
theorem big8_bigL (x:Int) (h0:0≤x) (h1:x<18446744073709551616):big8 x=bigL 8 x:=by
 have a:=refBig8 x h0 h1 0
 have b:=refBig 8 (by decide) x h0 h1 0
 rw[show ((8:Nat):Int)=8 from rfl] at b
 exact Option.some.inj (a.symm.trans b)
theorem refNumLittle_l (l:List Int) (hl:l.length≤8) (hb:∀ x ∈ l,byt x) (d:Nat):∀ k,d≤l.length→nepentheref01_NumLittle.l0 (k+d+1) l (valL (l.drop d).reverse) ((d:Int) - 1)=some (valL l.reverse):=by
 induction d with
 |zero=>
  intro k _
  rw[nepentheref01_NumLittle.l0,if_neg (by omega),List.drop_zero]
 |succ d ih=>
  intro k hd
  have e:rd l ((d:Int))=l[d]'(by omega):=by
   unfold rd
   rw[Int.toNat_natCast,List.getD_eq_getElem?_getD,List.getElem?_eq_getElem (by omega)];rfl
  have hd1:(l.drop (d+1)).reverse.length≤7:=by rw[List.length_reverse,List.length_drop];omega
  obtain ⟨h0,h1⟩:=val_bound _ (l.drop (d+1)).reverse rfl (fun x hx=>hb x (List.mem_of_mem_drop (List.mem_reverse.1 hx)))
  have hp:(256:Int) ^ (l.drop (d+1)).reverse.length≤256 ^ 7:=pow256 hd1
  have h7:(256:Int) ^ 7=72057594037927936:=by decide
  obtain ⟨x0,x1⟩:=hb _ (List.getElem_mem (l:=l) (n:=d) (by omega))
  have hv:valL (l.drop d).reverse=valL (l.drop (d+1)).reverse*256+l[d]'(by omega):=by
   rw[List.drop_eq_getElem_cons (show d<l.length by omega),List.reverse_cons,valL_snoc]
  have hw:IntKind.u64.wrap ((IntKind.u64.wrap (valL (l.drop (d+1)).reverse*256))+(IntKind.u64.wrap (rd l (d:Int))))=valL (l.drop d).reverse:=by
   rw[e,wraps_u64 (valL (l.drop (d+1)).reverse*256) (by omega) (by omega),wraps_u64 (l[d]'(by omega)) (by omega) (by omega),wraps_u64 _ (by omega) (by omega),hv]
  rw[show ((d+1:Nat):Int) - 1=(d:Int) from by omega,show k+(d+1)+1=(k+d+1)+1 from by omega,nepentheref01_NumLittle.l0,if_pos (by omega),if_pos (by omega),if_pos (by omega),w64 _ (by omega) (by omega),hw]
  exact ih k (by omega)
theorem refNumLittle_eq (l:List Int) (hl:l.length≤8) (hb:∀ x ∈ l,byt x) (k:Nat):nepentheref01_NumLittle.f (k+10) l=some (valL l.reverse):=by
 have h:=refNumLittle_l l hl hb l.length (k+9 - l.length) (Nat.le_refl _)
 rw[List.drop_length,List.reverse_nil,show k+9 - l.length+l.length+1=k+10 by omega] at h
 have e:mn 7 (wrap64 ((l.length:Int) - 1))=(l.length:Int) - 1:=by
  rw[w64 _ (by omega) (by omega)];unfold mn;omega
 unfold nepentheref01_NumLittle.f
 rw[e]
 exact h
theorem refNum_eq (l:List Int) (hl:l.length≤8) (hb:∀ x ∈ l,byt x) (k:Nat):nepentheref01_Num.f (k+10) l=some (valL l):=by
 have h1:=back_eq l (by omega) (k+9 - l.length)
 rw[show k+9 - l.length+l.length+1=k+10 by omega] at h1
 have h2:=refNumLittle_eq l.reverse (by rw[List.length_reverse];exact hl) (fun x hx=>hb x (List.mem_reverse.1 hx)) k
 rw[List.reverse_reverse] at h2
 unfold nepentheref01_Num.f
 rw[h1,Option.bind_some,h2,Option.bind_some]
theorem num_eq (l:List Int) (hl:l.length≤8) (hb:∀ x ∈ l,byt x):octet_Num.f l=some (valL l):=by
 unfold octet_Num.f
 rw[show l.length - 8=0 by omega,List.drop_zero,numL_val _ l rfl hl hb]
structure SlT where
 used:Bool
 size:Int
 epoch:Int
 count:Int
 wrap:List Int
def slZero:SlT:=⟨false,0,0,0,[]⟩
def zL (n:Nat):List Int:=List.replicate n 0
def slRight (x:SlT):Bool:=if x.used=true then decide (1≤x.size∧x.size≤65535∧x.wrap.length=104) else decide (x.size=0∧x.epoch=0∧x.count=0∧x.wrap=[])
theorem beq_dec (a b:Int) (h:Prop) [Decidable h] (e:(a=b)↔h):(a == b)=decide h:=by
 by_cases q:a=b
 ·rw[beq_iff_eq.2 q,decide_eq_true (e.1 q)]
 rw[beq_eq_false_iff_ne.2 q,decide_eq_false (fun z=>q (e.2 z))]
theorem len_zero {l:List Int}:(l.length:Int)=0↔l=[]:=by rw[← List.length_eq_zero_iff];omega
theorem slRight_eq (x:SlT):slot_Right.f x.used x.size x.epoch x.count x.wrap=some (slRight x):=by
 unfold slot_Right.f slRight
 repeat' split
 all_goals (first | (congr 1;exact beq_dec _ _ _ (by rw[← len_zero];omega)) | (congr 1;exact beq_dec _ _ _ (by omega)) | (congr 1;symm;exact decide_eq_false (by omega)) | (congr 1;symm;exact decide_eq_false (by rintro ⟨h1,h2,h3,h4⟩;omega)) | contradiction)
theorem refSlRight_eq (x:SlT):nepentheref17_Right.f x.used x.size x.epoch x.count x.wrap=some (slRight x):=by
 exact slRight_eq x
def slBytes (x:SlT):List Int:=if x.used=true then [1,0,0,0]++bigL 4 x.size++bigL 8 x.epoch++bigL 8 x.count++x.wrap else zL 128
def rdSl (l:List Int):SlT:=⟨true,valL ((l.take 8).drop 4),valL ((l.take 16).drop 8),valL ((l.take 24).drop 16),l.drop 24⟩
def slRead (l:List Int):Option SlT:=if l=zL 128 then some slZero else if valL (l.take 4)=16777216∧slRight (rdSl l)=true then some (rdSl l) else none
end Go.Proofs.Ytbajioiiaamokaa.Own
