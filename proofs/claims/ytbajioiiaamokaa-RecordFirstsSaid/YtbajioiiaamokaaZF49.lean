/- Opz, pruned (slim.py). -/
import Derived.Test.YtbajioiiaamokaaZF1
import Derived.OpenShut
import Derived.ProofKit
import Derived.SizedLaws
import Derived.Below
import Derived.ShutString
import Derived.ChangeOld
namespace Go.Proofs.Ytbajioiiaamokaa.Opz
open Go.RowKit Go.ChangeShapes Go.WideShapes Go.Proofs.YtbajioiiaamokaaW.PrintWords
set_option linter.unusedVariables false
def Opens {α:Type} (P:Program) (t:TypeId) (K:World→α→List Value→Prop) (Wf:α→Prop):Prop:=
 ∀ {H:Type} (enc:TypeId × Value→H) (sp:Nat→Bool) (held:Bool) (w:World) (base fuel:Nat) (cs:List Value) (x:DataW H × List MemPlace),DataW.trod enc P w base sp held fuel t cs=some x→(∀ n ∈ x.1.weights P t,n≤reachBytes)→∃ a,K w a cs∧Wf a
section
variable {P:Program} {t e:TypeId} {α β:Type}
theorem opens_int {k:IntKind} (hu:P.underlying t=some (.int k)):Opens P t (Kd.int k).K (fun n=>(Lit.int k n).wf=true):=by
 intro H enc sp held w base fuel cs x h _
 obtain ⟨n,rfl,_,hw⟩:=DataW.trod_int hu h
 exact ⟨n,rfl,hw⟩
theorem mem_weightsAll {H:Type} {ds:List (DataW H)} {d:DataW H} (h:d ∈ ds):∀ n ∈ d.weights P e,n ∈ DataW.weightsAll P e ds:=by
 induction ds with
 |nil=>simp at h
 |cons d0 r ih=>
  intro n hn
  simp only[DataW.weightsAll,List.mem_append]
  rcases List.mem_cons.1 h with rfl | h
  ·exact .inl hn
  exact .inr (ih h n hn)
theorem each_of {Q:Nat→α→Prop}:∀ n,(∀ i,i<n→∃ a,Q i a)→∃ xs:List α,xs.length=n∧∀ i a,xs[i]?=some a→Q i a
 |0,_=>⟨[],rfl,fun i a h=>by simp at h⟩
 |n+1,h=>by
  obtain ⟨xs,hl,hx⟩:=each_of n (fun i hi=>h i (by omega))
  obtain ⟨a,ha⟩:=h n (by omega)
  refine ⟨xs ++ [a],by simp[hl],fun i b hb=>?_⟩
  by_cases hi:i<n
  ·rw[List.getElem?_append_left (by omega)] at hb;exact hx i b hb
  have:i=n:=by have:=(List.getElem?_eq_some_iff.1 hb).1;simp[hl] at this;omega
  subst this
  rw[List.getElem?_append_right (by omega),hl,Nat.sub_self] at hb
  obtain rfl:a=b:=by simpa using hb
  exact ha
theorem opens_slice {q:Nat} {d:Kd α} {Wf:α→Prop} (hu:P.underlying t=some (.slice e)) (hsz:P.cellsOf e=d.sz) (hB:Nat.ble 1 (P.bytesOf e)=true) (h:Opens P e d.K Wf):Opens P t (Kd.slice q d).K (fun xs=>xs.length≤140737488351232∧∀ x ∈ xs,Wf x):=by
 intro H enc sp held w base fuel cs x hx hz
 have hB:=Nat.le_of_ble_eq_true hB
 rcases DataW.trod_slice hu hx with ⟨rfl,_⟩ | ⟨a,len,cap,elems,rest,n,_,rfl,rfl,_,hl,hm,hlen,hel,_,_⟩
 ·exact ⟨[],⟨none,0,rfl,Nat.le_refl _,Kd.C_nil d w⟩,by simp,fun x hx=>by simp at hx⟩
 have hz0:=hz (((elems.map (·.1)).length+(rest.map (·.1)).length)*P.bytesOf e) (by simp[DataW.weights,hu])
 have hze:∀ y ∈ elems,∀ n ∈ y.1.weights P e,n≤reachBytes:=fun y hy n hn=>hz n (by
  simp only[DataW.weights,hu,List.mem_cons,List.mem_append]
  exact .inr (.inl (mem_weightsAll (List.mem_map_of_mem hy) n hn)))
 have hlen2:len≤140737488351232:=by
  have h1:len≤((elems.map (·.1)).length+(rest.map (·.1)).length)*P.bytesOf e:=by
   rw[List.length_map,hlen]
   exact Nat.le_trans (Nat.le_add_right _ _) (Nat.le_mul_of_pos_right _ hB)
  exact Nat.le_trans h1 hz0
 have hQ:∀ i,i<len→∃ p:α,(∃ c:List Value,c.length=d.sz∧d.K w p c∧∀ j u,c[j]?=some u→w.cell? (a.add (i*d.sz+j))=some u)∧Wf p:=by
  intro i hi
  have h1:=hel i hi
  rw[List.getElem?_eq_getElem (by omega),Option.bind_eq_some_iff,hsz] at h1
  obtain ⟨c,hc,hd⟩:=h1
  obtain ⟨_,hcl,hcell⟩:=World.cells?_some hc
  obtain ⟨p,hp,hw⟩:=h enc sp held w base n c _ hd (hze _ (List.getElem_mem _))
  refine ⟨p,⟨c,hcl,hp,fun j u hj=>?_⟩,hw⟩
  rw[← Addr.add_add,hcell j (by have:=(List.getElem?_eq_some_iff.1 hj).1;omega)]
  exact hj
 obtain ⟨xs,hxl,hxs⟩:=each_of len hQ
 refine ⟨xs,⟨some a,cap,by rw[hxl],by omega,⟨rfl,by simp only[maxLen] at hm;omega,fun _=>⟨a,rfl,fun j p hj=>(hxs j p hj).1⟩⟩⟩,by omega,fun x hx=>?_⟩
 obtain ⟨i,hi⟩:=List.getElem?_of_mem hx
 exact (hxs i x hi).2
variable {H:Type} {enc:TypeId × Value→H} {w:World} {base:Nat} {sp:Nat→Bool} {held:Bool} {r:Reach} {b0:Nat} {v:Value} {d:DataW H} {ps:List MemPlace}
theorem arg_int {k:IntKind} (hu:P.underlying t=some (.int k)) (hval:Value.okWide P w r b0 t v) (hd:DataW.Trod enc P w base sp held t v d ps) (hz:∀ n ∈ d.weights P t,n≤reachBytes):∃ n,v=.int k n∧(Lit.int k n).wf=true:=by
 obtain ⟨n,rfl⟩:=okWide_int hu hval
 obtain ⟨fuel,hf⟩:=hd
 obtain ⟨m,hm,hw⟩:=opens_int hu enc sp held w base fuel _ _ hf hz
 obtain rfl:n=m:=by simpa [Value.cells,Kd.int,Kd.scalar] using hm
 exact ⟨n,rfl,hw⟩
theorem arg_slice {q:Nat} {k:Kd α} {Wf:List α→Prop} (hu:P.underlying t=some (.slice e)) (h:Opens P t (Kd.slice q k).K Wf) (hval:Value.okWide P w r b0 t v) (hd:DataW.Trod enc P w base sp held t v d ps) (hz:∀ n ∈ d.weights P t,n≤reachBytes):∃ A c xs,v=.slice A xs.length c∧xs.length≤c∧k.C w A xs.length xs∧Wf xs:=by
 obtain ⟨A,n,c,rfl⟩:=okWide_slice hu hval
 obtain ⟨fuel,hf⟩:=hd
 obtain ⟨xs,⟨A',c',hv,hc,hC⟩,hw⟩:=h enc sp held w base fuel _ _ hf hz
 have:Value.slice A n c=.slice A' xs.length c':=by simpa [Value.cells] using hv
 exact ⟨A',c',xs,this,hc,hC,hw⟩
end
end Go.Proofs.Ytbajioiiaamokaa.Opz
