/- Opz, pruned (slim.py). -/
import Derived.Test.YtiogdomjmjiahaaZH1
import Derived.OpenShut
import Derived.ProofKit
import Derived.SizedLaws
import Derived.Below
import Derived.ShutString
import Derived.ChangeOld
namespace Go.Proofs.Ytiogdomjmjiahaa.Opz
open Go.RowKit Go.ChangeShapes Go.WideShapes Go.Proofs.YtiogdomjmjiahaaW.PrintWords
set_option linter.unusedVariables false
def Opens {α:Type} (P:Program) (t:TypeId) (K:World→α→List Value→Prop) (Wf:α→Prop):Prop:=
 ∀ {H:Type} (enc:TypeId × Value→H) (sp:Nat→Bool) (held:Bool) (w:World) (base fuel:Nat) (cs:List Value) (x:DataW H × List MemPlace),DataW.trod enc P w base sp held fuel t cs=some x→(∀ n ∈ x.1.weights P t,n≤reachBytes)→∃ a,K w a cs∧Wf a
section
variable {P:Program} {t e:TypeId} {α β:Type}
theorem opens_int {k:IntKind} (hu:P.underlying t=some (.int k)):Opens P t (Kd.int k).K (fun n=>(Lit.int k n).wf=true):=by
 intro H enc sp held w base fuel cs x h _
 obtain ⟨n,rfl,_,hw⟩:=DataW.trod_int hu h
 exact ⟨n,rfl,hw⟩
theorem opens_bool (hu:P.underlying t=some .bool):Opens P t Kd.bool.K (fun _=>True):=by
 intro H enc sp held w base fuel cs x h _
 obtain ⟨b,rfl,_⟩:=DataW.trod_bool hu h
 exact ⟨b,rfl,trivial⟩
theorem mem_weightsAll {H:Type} {ds:List (DataW H)} {d:DataW H} (h:d ∈ ds):∀ n ∈ d.weights P e,n ∈ DataW.weightsAll P e ds:=by
 induction ds with
 |nil=>simp at h
 |cons d0 r ih=>
  intro n hn
  simp only[DataW.weightsAll,List.mem_append]
  rcases List.mem_cons.1 h with rfl | h
  ·exact .inl hn
  exact .inr (ih h n hn)
theorem each_of {Q:Nat→α→Prop}:∀ n,(∀ i,i<n→∃ a,Q i a)→∃ xs:List α,xs.length=n∧∀ i a,xs[i]?=some a→Q i a
 |0,_=>⟨[],rfl,fun i a h=>by simp at h⟩
 |n+1,h=>by
  obtain ⟨xs,hl,hx⟩:=each_of n (fun i hi=>h i (by omega))
  obtain ⟨a,ha⟩:=h n (by omega)
  refine ⟨xs ++ [a],by simp[hl],fun i b hb=>?_⟩
  by_cases hi:i<n
  ·rw[List.getElem?_append_left (by omega)] at hb;exact hx i b hb
  have:i=n:=by have:=(List.getElem?_eq_some_iff.1 hb).1;simp[hl] at this;omega
  subst this
  rw[List.getElem?_append_right (by omega),hl,Nat.sub_self] at hb
  obtain rfl:a=b:=by simpa using hb
  exact ha
theorem opens_slice {q:Nat} {d:Kd α} {Wf:α→Prop} (hu:P.underlying t=some (.slice e)) (hsz:P.cellsOf e=d.sz) (hB:Nat.ble 1 (P.bytesOf e)=true) (h:Opens P e d.K Wf):Opens P t (Kd.slice q d).K (fun xs=>xs.length≤140737488351232∧∀ x ∈ xs,Wf x):=by
 intro H enc sp held w base fuel cs x hx hz
 have hB:=Nat.le_of_ble_eq_true hB
 rcases DataW.trod_slice hu hx with ⟨rfl,_⟩ | ⟨a,len,cap,elems,rest,n,_,rfl,rfl,_,hl,hm,hlen,hel,_,_⟩
 ·exact ⟨[],⟨none,0,rfl,Nat.le_refl _,Kd.C_nil d w⟩,by simp,fun x hx=>by simp at hx⟩
 have hz0:=hz (((elems.map (·.1)).length+(rest.map (·.1)).length)*P.bytesOf e) (by simp[DataW.weights,hu])
 have hze:∀ y ∈ elems,∀ n ∈ y.1.weights P e,n≤reachBytes:=fun y hy n hn=>hz n (by
  simp only[DataW.weights,hu,List.mem_cons,List.mem_append]
  exact .inr (.inl (mem_weightsAll (List.mem_map_of_mem hy) n hn)))
 have hlen2:len≤140737488351232:=by
  have h1:len≤((elems.map (·.1)).length+(rest.map (·.1)).length)*P.bytesOf e:=by
   rw[List.length_map,hlen]
   exact Nat.le_trans (Nat.le_add_right _ _) (Nat.le_mul_of_pos_right _ hB)
  exact Nat.le_trans h1 hz0
 have hQ:∀ i,i<len→∃ p:α,(∃ c:List Value,c.length=d.sz∧d.K w p c∧∀ j u,c[j]?=some u→w.cell? (a.add (i*d.sz+j))=some u)∧Wf p:=by
  intro i hi
  have h1:=hel i hi
  rw[List.getElem?_eq_getElem (by omega),Option.bind_eq_some_iff,hsz] at h1
  obtain ⟨c,hc,hd⟩:=h1
  obtain ⟨_,hcl,hcell⟩:=World.cells?_some hc
  obtain ⟨p,hp,hw⟩:=h enc sp held w base n c _ hd (hze _ (List.getElem_mem _))
  refine ⟨p,⟨c,hcl,hp,fun j u hj=>?_⟩,hw⟩
  rw[← Addr.add_add,hcell j (by have:=(List.getElem?_eq_some_iff.1 hj).1;omega)]
  exact hj
 obtain ⟨xs,hxl,hxs⟩:=each_of len hQ
 refine ⟨xs,⟨some a,cap,by rw[hxl],by omega,⟨rfl,by simp only[maxLen] at hm;omega,fun _=>⟨a,rfl,fun j p hj=>(hxs j p hj).1⟩⟩⟩,by omega,fun x hx=>?_⟩
 obtain ⟨i,hi⟩:=List.getElem?_of_mem hx
 exact (hxs i x hi).2
def VecK (K:World→α→List Value→Prop) (w:World):List α→List Value→Prop
 |[],cs=>cs=[]
 |x :: xs,cs=>∃ c c',cs=c++c'∧K w x c∧VecK K w xs c'
theorem opens_array {K:World→α→List Value→Prop} {Wf:α→Prop} {n:Nat} (hu:P.underlying t=some (.array n e)) (hc:P.cellsOf t=n*P.cellsOf e) (h:Opens P e K Wf):Opens P t (fun w xs cs=>xs.length=n∧VecK K w xs cs) (fun xs=>∀ x ∈ xs,Wf x):=by
 intro H enc sp held w base fuel cs x hx hz
 obtain ⟨ys,m,_,hxe,hl,hyl,hy⟩:=DataW.trod_array hu hx
 subst hxe
 have hze:∀ y ∈ ys,∀ n ∈ y.1.weights P e,n≤reachBytes:=fun y hy n hn=>hz n (by
  simp only[DataW.weights,hu]
  exact mem_weightsAll (List.mem_map_of_mem hy) n hn)
 have key:∀ k,k≤n→∃ xs:List α,xs.length=k∧VecK K w xs (cs.drop ((n - k)*P.cellsOf e))∧∀ x ∈ xs,Wf x:=by
  intro k
  induction k with
  |zero=>intro _;exact ⟨[],rfl,by rw[Nat.sub_zero,List.drop_eq_nil_of_le (by rw[hl,hc];exact Nat.le_refl _)];rfl,fun x hx=>by simp at hx⟩
  |succ k ih=>
   intro hk
   obtain ⟨xs,hxl,hv,hw⟩:=ih (by omega)
   have h1:=hy (n - (k+1)) (by omega)
   rw[List.getElem?_eq_getElem (by omega)] at h1
   obtain ⟨a,ha,hwa⟩:=h enc sp held w base m _ _ h1 (hze _ (List.getElem_mem _))
   refine ⟨a :: xs,by simp[hxl],⟨_,_,(List.take_append_drop (P.cellsOf e) _).symm,ha,?_⟩,fun x hx=>?_⟩
   ·rw[List.drop_drop,show (n - (k+1))*P.cellsOf e+P.cellsOf e=(n - k)*P.cellsOf e from by rw[← Nat.succ_mul];congr 1;omega]
    exact hv
   rcases List.mem_cons.1 hx with rfl | hx
   ·exact hwa
   exact hw x hx
 obtain ⟨xs,hxl,hv,hw⟩:=key n (Nat.le_refl _)
 rw[Nat.sub_self,Nat.zero_mul,List.drop_zero] at hv
 exact ⟨xs,⟨hxl,hv⟩,hw⟩
def FOpen (P:Program) (fs:List Field) (off total:Nat) (K:World→α→List Value→Prop) (Wf:α→Prop):Prop:=
 ∀ {H:Type} (enc:TypeId × Value→H) (sp:Nat→Bool) (held:Bool) (w:World) (base fuel:Nat) (cs:List Value),cs.length=total→(∀ f ∈ fs,∃ y,DataW.trod enc P w base sp held fuel f.type ((cs.drop f.offset).take (P.cellsOf f.type))=some y∧∀ n ∈ y.1.weights P f.type,n≤reachBytes)→∃ a,K w a (cs.drop off)∧Wf a
theorem fopen_one {f:Field} {off total:Nat} {K:World→α→List Value→Prop} {Wf:α→Prop} (hf:f.offset=off) (hc:off+P.cellsOf f.type=total) (h:Opens P f.type K Wf):FOpen P [f] off total K Wf:=by
 intro H enc sp held w base fuel cs hl hy
 obtain ⟨y,hy,hz⟩:=hy f (by simp)
 obtain ⟨a,ha,hw⟩:=h enc sp held w base fuel _ _ hy hz
 rw[hf,List.take_of_length_le (by rw[List.length_drop];omega)] at ha
 exact ⟨a,ha,hw⟩
theorem fopen_cons {f:Field} {fs:List Field} {off off' total:Nat} {K:World→α→List Value→Prop} {K':World→β→List Value→Prop} {Wf:α→Prop} {Wf':β→Prop} (hf:f.offset=off) (ho:off+P.cellsOf f.type=off') (h:Opens P f.type K Wf) (hs:FOpen P fs off' total K' Wf') :
  FOpen P (f :: fs) off total (fun w (x:α × β) cs=>∃ c0 c1,cs=c0++c1∧K w x.1 c0∧K' w x.2 c1) (fun x=>Wf x.1∧Wf' x.2):=by
 intro H enc sp held w base fuel cs hl hy
 obtain ⟨y,hy0,hz⟩:=hy f (by simp)
 obtain ⟨a,ha,hw⟩:=h enc sp held w base fuel _ _ hy0 hz
 obtain ⟨b,hb,hw'⟩:=hs enc sp held w base fuel cs hl (fun g hg=>hy g (List.mem_cons_of_mem _ hg))
 rw[hf] at ha
 refine ⟨(a,b),⟨_,_,(List.take_append_drop (P.cellsOf f.type) (cs.drop off)).symm,ha,?_⟩,hw,hw'⟩
 rw[List.drop_drop,ho]
 exact hb
theorem opens_struct {fs:Array Field} {K:World→α→List Value→Prop} {Wf:α→Prop} {total:Nat} (hu:P.underlying t=some (.struct fs)) (hc:P.cellsOf t=total) (hf:FOpen P fs.toList 0 total K Wf):Opens P t K Wf:=by
 intro H enc sp held w base fuel cs x hx hz
 obtain ⟨ys,n,_,hxe,hl,hyl,hy⟩:=DataW.trod_struct hu hx
 subst hxe
 obtain ⟨a,ha,hw⟩:=hf enc sp held w base n cs (by rw[hl,hc]) (fun f hm=>by
  obtain ⟨i,hi⟩:=List.getElem?_of_mem hm
  have h1:=hy i f (by simpa using hi)
  have hlt:i<ys.length:=by have:=(List.getElem?_eq_some_iff.1 hi).1;simp at this;omega
  rw[List.getElem?_eq_getElem hlt] at h1
  refine ⟨_,h1,fun m hm=>hz m ?_⟩
  simp only[DataW.weights,hu]
  exact DataW.weights_mem_each (j:=i) (t:=f.type) (by rw[List.getElem?_map,hi];rfl) (by rw[List.getElem?_map,List.getElem?_eq_getElem hlt];rfl) m hm)
 rw[List.drop_zero] at ha
 exact ⟨a,ha,hw⟩
variable {H:Type} {enc:TypeId × Value→H} {w:World} {base:Nat} {sp:Nat→Bool} {held:Bool} {r:Reach} {b0:Nat} {v:Value} {d:DataW H} {ps:List MemPlace}
theorem arg_int {k:IntKind} (hu:P.underlying t=some (.int k)) (hval:Value.okWide P w r b0 t v) (hd:DataW.Trod enc P w base sp held t v d ps) (hz:∀ n ∈ d.weights P t,n≤reachBytes):∃ n,v=.int k n∧(Lit.int k n).wf=true:=by
 obtain ⟨n,rfl⟩:=okWide_int hu hval
 obtain ⟨fuel,hf⟩:=hd
 obtain ⟨m,hm,hw⟩:=opens_int hu enc sp held w base fuel _ _ hf hz
 obtain rfl:n=m:=by simpa [Value.cells,Kd.int,Kd.scalar] using hm
 exact ⟨n,rfl,hw⟩
theorem arg_agg {K:World→α→List Value→Prop} {Wf:α→Prop} (hu:(∃ fs,P.underlying t=some (.struct fs))∨∃ n e,P.underlying t=some (.array n e)) (h:Opens P t K Wf) (hval:Value.okWide P w r b0 t v) (hd:DataW.Trod enc P w base sp held t v d ps) (hz:∀ n ∈ d.weights P t,n≤reachBytes):∃ a cs,v=.agg cs∧K w a cs.toList∧Wf a:=by
 have:∃ cs,v=.agg cs:=by
  unfold Value.okWide at hval
  rcases hu with ⟨fs,hu⟩ | ⟨n,e,hu⟩
  ·rw[hu] at hval;obtain ⟨cs,h,_⟩:=hval;exact ⟨cs,h⟩
  rw[hu] at hval;obtain ⟨cs,h,_⟩:=hval;exact ⟨cs,h⟩
 obtain ⟨cs,rfl⟩:=this
 obtain ⟨fuel,hf⟩:=hd
 obtain ⟨a,ha,hw⟩:=h enc sp held w base fuel _ _ hf hz
 exact ⟨a,cs,rfl,ha,hw⟩
end
end Go.Proofs.Ytiogdomjmjiahaa.Opz
