/- PlA, pruned (slim.py). -/
import Derived.Test.YtbajioiiaamokaaZB26
import Derived.Test.YtbajioiiaamokaaZB24
namespace Go.Proofs.Ytbajioiiaamokaa.Own
open Go.RowKit Go.Proofs.Ytbajioiiaamokaa.Arr Go.Proofs.Ytbajioiiaamokaa.QB Go.Proofs.YtbajioiiaamokaaW.PrintWords Go.Proofs.YtbajioiiaamokaaW.PrintLast Go.Proofs.YtbajioiiaamokaaW.PrintMore
set_option linter.unusedVariables false
set_option linter.unusedSimpArgs false
def valL (l:List Int):Int:=l.foldl (fun n x=>n*256+x) 0
theorem pow256 {n m:Nat} (h:n≤m):(256:Int) ^ n≤256 ^ m:=by
 have h1:256 ^ n≤256 ^ m:=Nat.pow_le_pow_right (by decide) h
 have e:∀ k:Nat,((256 ^ k:Nat):Int)=(256:Int) ^ k:=fun k=>by rw[Int.natCast_pow];rfl
 rw[← e n,← e m]
 omega
theorem valL_snoc (l:List Int) (x:Int):valL (l ++ [x])=valL l*256+x:=by simp[valL]
theorem snoc_cases {α:Type} (l:List α):l=[]∨∃ l' x,l=l' ++ [x]:=by
 rcases l.eq_nil_or_concat with h | ⟨l',x,h⟩
 ·exact .inl h
 exact .inr ⟨l',x,by simpa using h⟩
theorem val_bound (n:Nat):∀ l:List Int,l.length=n→(∀ x ∈ l,byt x)→0≤valL l∧valL l<256 ^ n:=by
 induction n with
 |zero=>
  intro l hl _
  obtain rfl:=List.length_eq_zero_iff.1 hl
  exact ⟨by decide,by decide⟩
 |succ n ih=>
  intro l hl hb
  rcases snoc_cases l with rfl | ⟨l',x,rfl⟩
  ·simp at hl
  have hl':l'.length=n:=by simpa using hl
  have:=ih l' hl' (fun y hy=>hb y (List.mem_append_left _ hy))
  obtain ⟨h0,h1⟩:=hb x (by simp)
  rw[valL_snoc,Int.pow_succ]
  generalize valL l'=v at *
  generalize (256:Int) ^ n=p at *
  omega
theorem numL_snoc (l:List Int) (x:Int):numL (l ++ [x])=numStep (numL l) x:=by simp[numL]
theorem numL_val (n:Nat):∀ l:List Int,l.length=n→n≤8→(∀ x ∈ l,byt x)→numL l=valL l:=by
 induction n with
 |zero=>
  intro l hl _ _
  obtain rfl:=List.length_eq_zero_iff.1 hl
  rfl
 |succ n ih=>
  intro l hl h8 hb
  rcases snoc_cases l with rfl | ⟨l',x,rfl⟩
  ·simp at hl
  have hl':l'.length=n:=by simpa using hl
  have hb':∀ y ∈ l',byt y:=fun y hy=>hb y (List.mem_append_left _ hy)
  have e:=ih l' hl' (by omega) hb'
  obtain ⟨h0,h1⟩:=val_bound n l' hl' hb'
  have hp:(256:Int) ^ n≤256 ^ 7:=pow256 (by omega)
  have h7:(256:Int) ^ 7=72057594037927936:=by decide
  rw[numL_snoc,valL_snoc,e]
  exact numStep_eq _ x h0 (by omega) (hb x (by simp))
def bigL (k:Nat) (x:Int):List Int:=(littleL k x).reverse
theorem bigL_length (k:Nat) (x:Int):(bigL k x).length=k:=by simp[bigL,littleL_length]
theorem bigL_succ (k:Nat) (x:Int):bigL (k+1) x=bigL k (x / 256) ++ [x % 256]:=by simp[bigL,littleL]
theorem valL_big (k:Nat):∀ x:Int,0≤x→x<256 ^ k→valL (bigL k x)=x:=by
 induction k with
 |zero=>
  intro x h0 h1
  have:x=0:=by rw[Int.pow_zero] at h1;omega
  subst this;rfl
 |succ k ih=>
  intro x h0 h1
  rw[bigL_succ,valL_snoc,ih (x / 256) (by omega) (by rw[Int.pow_succ] at h1;omega)]
  omega
theorem bigL_byt (k:Nat):∀ x:Int,∀ y ∈ bigL k x,byt y:=by
 induction k with
 |zero=>intro x y hy;simp[bigL,littleL] at hy
 |succ k ih=>
  intro x y hy
  rw[bigL_succ] at hy
  rcases List.mem_append.1 hy with hy | hy
  ·exact ih _ y hy
  simp at hy;subst hy;exact ⟨by omega,by omega⟩
theorem big4_bigL (x:Int):big4 x=bigL 4 x:=by
 simp only[bigL,littleL,List.reverse_cons,List.reverse_nil,List.nil_append,List.cons_append,big4]
 congr 1
 ·omega
 congr 1;omega
theorem big8_bigL (x:Int) (h0:0≤x) (h1:x<18446744073709551616):big8 x=bigL 8 x:=by
 have a:=refBig8 x h0 h1 0
 have b:=refBig 8 (by decide) x h0 h1 0
 rw[show ((8:Nat):Int)=8 from rfl] at b
 exact Option.some.inj (a.symm.trans b)
theorem num_eq (l:List Int) (hl:l.length≤8) (hb:∀ x ∈ l,byt x):octet_Num.f l=some (valL l):=by
 unfold octet_Num.f
 rw[show l.length - 8=0 by omega,List.drop_zero,numL_val _ l rfl hl hb]
structure SlT where
 used:Bool
 size:Int
 epoch:Int
 count:Int
 wrap:List Int
def slZero:SlT:=⟨false,0,0,0,[]⟩
def zL (n:Nat):List Int:=List.replicate n 0
def slRight (x:SlT):Bool:=if x.used=true then decide (1≤x.size∧x.size≤65535∧x.wrap.length=104) else decide (x.size=0∧x.epoch=0∧x.count=0∧x.wrap=[])
theorem beq_dec (a b:Int) (h:Prop) [Decidable h] (e:(a=b)↔h):(a == b)=decide h:=by
 by_cases q:a=b
 ·rw[beq_iff_eq.2 q,decide_eq_true (e.1 q)]
 rw[beq_eq_false_iff_ne.2 q,decide_eq_false (fun z=>q (e.2 z))]
theorem len_zero {l:List Int}:(l.length:Int)=0↔l=[]:=by rw[← List.length_eq_zero_iff];omega
theorem slRight_eq (x:SlT):slot_Right.f x.used x.size x.epoch x.count x.wrap=some (slRight x):=by
 unfold slot_Right.f slRight
 repeat' split
 all_goals (first | (congr 1;exact beq_dec _ _ _ (by rw[← len_zero];omega)) | (congr 1;exact beq_dec _ _ _ (by omega)) | (congr 1;symm;exact decide_eq_false (by omega)) | (congr 1;symm;exact decide_eq_false (by rintro ⟨h1,h2,h3,h4⟩;omega)) | contradiction)
theorem refSlRight_eq (x:SlT):nepentheref17_Right.f x.used x.size x.epoch x.count x.wrap=some (slRight x):=by
 exact slRight_eq x
def slBytes (x:SlT):List Int:=if x.used=true then [1,0,0,0]++bigL 4 x.size++bigL 8 x.epoch++bigL 8 x.count++x.wrap else zL 128
def rdSl (l:List Int):SlT:=⟨true,valL ((l.take 8).drop 4),valL ((l.take 16).drop 8),valL ((l.take 24).drop 16),l.drop 24⟩
def slRead (l:List Int):Option SlT:=if l=zL 128 then some slZero else if valL (l.take 4)=16777216∧slRight (rdSl l)=true then some (rdSl l) else none
end Go.Proofs.Ytbajioiiaamokaa.Own
