/- UtA, pruned (slim.py). -/
import Derived.Test.YtbajioiiaamokaaZB26
import Derived.Test.YtbajioiiaamokaaZB24
import Derived.Deep.MidRow
import Derived.Deep.WholeRow
namespace Go.Proofs.Ytbajioiiaamokaa.Own
open Go.RowKit Go.Proofs.Ytbajioiiaamokaa.Arr Go.Proofs.Ytbajioiiaamokaa.QB Go.Proofs.YtbajioiiaamokaaW.PrintWords Go.Proofs.YtbajioiiaamokaaW.PrintLast Go.Proofs.YtbajioiiaamokaaW.PrintMore
set_option linter.unusedVariables false
set_option linter.unusedSimpArgs false
theorem heap_setCells_row {g:Nat} {t:TypeId} (vs:List Value):∀ (o:Nat) (w:World) (cur:Array Value),w.heap[g]?=some (.cells cur t (0,0))→o+vs.length≤cur.size →
  ∃ cur':Array Value,(w.setCells g o vs).heap[g]?=some (.cells cur' t (0,0))∧cur'.size=cur.size∧cur'.toList.take (o+vs.length)=cur.toList.take o++vs:=by
 induction vs with
 |nil=>intro o w cur h _;exact ⟨cur,h,rfl,by simp⟩
 |cons v vs ih=>
  intro o w cur h hs
  simp only[List.length_cons] at hs
  have h1:=heap_setCell_same w g o cur t v h
  obtain ⟨cur',h2,h3,h4⟩:=ih (o+1) _ _ h1 (by simp only[Array.size_setIfInBounds];omega)
  refine ⟨cur',h2,by rw[h3,Array.size_setIfInBounds],?_⟩
  rw[List.length_cons,show o+(vs.length+1)=o+1+vs.length by omega,h4]
  have:(cur.setIfInBounds o v).toList.take (o+1)=cur.toList.take o ++ [v]:=by
   rw[Array.toList_setIfInBounds,List.take_succ_eq_append_getElem (by simp;omega)]
   congr 1
   ·rw[List.take_set_of_le (Nat.le_refl _)]
   simp
  rw[this,List.append_assoc];rfl
theorem tape_setCells (g:Nat) (vs:List Value):∀ (o:Nat) (w:World),(w.setCells g o vs).tape=w.tape:=by
 induction vs with
 |nil=>intro o w;rfl
 |cons v vs ih=>intro o w;rw[World.setCells,ih];rfl
theorem size_setCells (g:Nat) (vs:List Value):∀ (o:Nat) (w:World),(w.setCells g o vs).heap.size=w.heap.size:=by
 induction vs with
 |nil=>intro o w;rfl
 |cons v vs ih=>intro o w;rw[World.setCells,ih];simp[World.setCell]
theorem own_append2 {w:World} (base:Nat) (ty T:TypeId) (v:Value) (xs:List Int) (src:Value) (m:List Int) (hsrc:Src Try.prog 1 T src m.length (m.map (Value.int .u8)) w)
  (ho:w.ownsRow base 5 1 v xs.length (nums .u8 xs)) (hbase:base≤w.heap.size) (hb:xs.length+m.length≤70368744177664) :
  ∃ v' w',(Builtin.append_ #[23,T] ty #[v,src]).run Try.prog w=.ok v' w'∧w'.ownsRow base 5 1 v' (xs++m).length (nums .u8 (xs++m))∧w.grownBy w' v.ownBlock∧(∀ k,v'.ownBlock=some k→v.ownBlock=some k∨w.heap.size≤k):=by
 obtain ⟨i0,hi,hz,hs,hby⟩:=info_parts info5
 have hnum:nums .u8 (xs++m)=nums .u8 xs++m.map (Value.int .u8):=by simp[nums]
 have hxl:(nums .u8 xs).length=xs.length:=by simp[nums]
 have hlen:(nums .u8 (xs++m)).length=(xs++m).length*1:=by simp[nums]
 -- a new row
 have grow:∀ (A:Option Addr) (n c:Nat),v=.slice A n c→n=xs.length→c<xs.length+m.length→n≤c→(Builtin.firstCells 1 n (.slice A n c)).run Try.prog w.drew=.ok (nums .u8 xs).toArray w.drew →
   ∃ v' w',(Builtin.append_ #[23,T] ty #[v,src]).run Try.prog w=.ok v' w'∧w'.ownsRow base 5 1 v' (xs++m).length (nums .u8 (xs++m))∧w.grownBy w' v.ownBlock∧(∀ k,v'.ownBlock=some k→v.ownBlock=some k∨w.heap.size≤k):=by
  intro A n c hv hn hc hnc hf
  subst hv hn
  have hcap:=nextslicecap_le hc
  have hrun:=run_append_grow_src (P:=Try.prog) w 23 T ty _ i0 (.int .u8 0) Try.underlying23 hi hz A xs.length c (nums .u8 xs) (by rw[hs];exact hf) src m.length (m.map (Value.int .u8)) (by rw[hs];exact hsrc) hc (by omega) (by rw[hby];omega)
  refine ⟨_,_,hrun,⟨hlen,.inr ⟨w.heap.size,_,_,by rw[List.length_append],hbase,heap_alloc_last w.drew _,by rw[List.length_append];exact grownCap_ge _ _ _ _,grownCap_le_maxLen w _ _ _ (by simp only[maxLen];omega),?_,?_⟩⟩,⟨rfl,rfl,rfl,by simp,fun k hk _=>heap_skip w.drew _ k (Nat.ne_of_lt hk)⟩,fun k hk=>by simp only[Value.ownBlock,Option.some.injEq] at hk;exact Or.inr (Nat.le_of_eq hk)⟩
  ·have:=grownCap_ge w (xs.length+m.length) c 5
   have hz1:(Value.int IntKind.u8 0).cells.size=1:=rfl
   simp only[Array.size_append,List.size_toArray,List.length_append,size_zeroCells,List.length_map,hxl,hz1]
   omega
  simp only[Array.toList_append,List.append_assoc]
  rw[← List.append_assoc,← hnum,← hlen]
  exact List.take_left
 rcases ho.2 with ⟨rfl,h0⟩ | ⟨g,cap,cur,rfl,hbg,hg,hnc,hcm,hcs,htake⟩
 ·have hx:xs=[]:=List.length_eq_zero_iff.1 h0
  subst hx
  by_cases hm:m=[]
  ·subst hm
   refine ⟨.slice none 0 0,w,?_,World.ownsRow_nil w base _ 1,⟨rfl,rfl,rfl,Nat.le_refl _,fun _ _ _=>rfl⟩,fun k hk=>by simp[Value.ownBlock] at hk⟩
   exact run_append_nothing w _ _ ty _ i0 Try.underlying23 hi none 0 0 (Nat.le_refl _) _ (by rw[hs];exact hsrc)
  have hml:0<m.length:=List.length_pos_iff.2 hm
  exact grow none 0 0 rfl rfl (by simpa using hml) (Nat.le_refl _) (by simp[Builtin.firstCells,loadCells,loadCellsFrom,nums])
 by_cases hroom:xs.length+m.length≤cap
 ·have hfit:xs.length+(m.map (Value.int .u8)).length≤cur.size:=by rw[List.length_map,hcs,Nat.mul_one];exact hroom
  have hrun:=run_append_room_src (P:=Try.prog) w 23 T ty _ i0 Try.underlying23 hi g 0 xs.length cap src m.length (m.map (Value.int .u8)) (by rw[hs];exact hsrc) hroom
   (fun j hj=>by rw[cell_of_row w g _ _ _ _ hg,hs];rw[Array.getElem?_eq_getElem (by omega)];rfl) (fun j hj=>frozen_of_row w g _ _ _ hg)
  rw[hs,Nat.mul_one,Nat.zero_add] at hrun
  obtain ⟨cur',h2,h3,h4⟩:=heap_setCells_row (m.map (Value.int .u8)) xs.length w cur hg hfit
  refine ⟨_,_,hrun,⟨hlen,.inr ⟨g,cap,cur',by rw[List.length_append],hbg,h2,by rw[List.length_append];exact hroom,hcm,by rw[h3,hcs],?_⟩⟩,⟨World.os_setCells _ _ _ _,?_,World.output_setCells _ _ _ _,?_,fun k hk hne=>?_⟩,fun k hk=>Or.inl hk⟩
  ·rw[Nat.mul_one] at htake
   rw[List.length_map] at h4
   rw[List.length_append,Nat.mul_one,h4,htake,hnum]
  ·exact tape_setCells _ _ _ _
  ·exact Nat.le_of_eq (size_setCells _ _ _ _).symm
  exact World.heap_setCells_other w g _ _ hk (fun e=>hne (by simp[Value.ownBlock,e]))
 have holds:∀ j u,(nums .u8 xs)[j]?=some u→w.cell? ((⟨g,0,none⟩:Addr).add j)=some u:=ho.cells (g:=g) rfl
 refine grow (some ⟨g,0,none⟩) xs.length cap rfl rfl (by omega) hnc ?_
 exact run_firstCells_some w.drew 1 xs.length ⟨g,0,none⟩ xs.length cap (nums .u8 xs) (by simp[nums]) holds
theorem own_append {w:World} (base:Nat) (ty T:TypeId) (v:Value) (xs:List Int) (src:Value) (m:List Int) (hsrc:Src Try.prog 1 T src m.length (m.map (Value.int .u8)) w)
  (ho:w.ownsRow base 5 1 v xs.length (nums .u8 xs)) (hbase:base≤w.heap.size) (hb:xs.length+m.length≤70368744177664) :
  ∃ v' w',(Builtin.append_ #[23,T] ty #[v,src]).run Try.prog w=.ok v' w'∧w'.ownsRow base 5 1 v' (xs++m).length (nums .u8 (xs++m))∧w.grownBy w' v.ownBlock:=by
 obtain ⟨v',w',h1,h2,h3,-⟩:=own_append2 base ty T v xs src m hsrc ho hbase hb
 exact ⟨v',w',h1,h2,h3⟩
section
variable {ops:Array Oper} {rest:List Oper} {o:Oper} {a:Act} {w:World} {Q:Exit→Act→World→Prop}
theorem wpList_own_append (hg:o.guard=none) (x y:Operand) (T:TypeId) (ho:o.op=.call { callee:=.builtin .append,args:=#[x,y],argTypes:=#[23,T] }) (base:Nat) (v:Value) (xs:List Int) (src:Value) (m:List Int) (hx:a.eval x=v) (hy:a.eval y=src)
  (hsrc:Src Try.prog 1 T src m.length (m.map (Value.int .u8)) w) (hown:w.ownsRow base 5 1 v xs.length (nums .u8 xs)) (hbase:base≤w.heap.size) (hb:xs.length+m.length≤70368744177664)
  (h:∀ v' w',w'.ownsRow base 5 1 v' (xs++m).length (nums .u8 (xs++m))→w.grownBy w' v.ownBlock→wpList Try.prog ops Q rest (a.put o.dst v') w'):wpList Try.prog ops Q (o :: rest) a w:=by
 obtain ⟨v',w',hrun,h1,h2⟩:=own_append base o.type T v xs src m hsrc hown hbase hb
 refine wpList_plain hg fun _ hK=>?_
 unfold Oper.wp
 rw[exec_append w x y _ _ ho v src hx hy hrun]
 exact hK _ _ (h v' w' h1 h2)
end
section
variable {P:Program} {a:Act} {op:Oper}
theorem exec_slice_lh (w:World) (ty e:TypeId) (hu:P.underlying ty=some (.slice e)) (x lo hi:Operand) (ho:op.op=.slice ty x (some lo) (some hi) none) (vx vl vh v:Value) (hx:a.eval x=vx) (hl:a.eval lo=vl) (hh:a.eval hi=vh)
  (hr:(Instr.slice ty vx (some vl) (some vh) none).run P w=.ok v w):(execOp a.eval op).run P w=.ok (.value v) w:=by
 unfold execOp
 simp only[ho,Option.map_some,Option.map_none,hx,hl,hh,Sem.run_bind,Sem.run_pure,Result.andThen_ok,Instr.sliceAt,run_underlying hu,hr]
theorem exec_slice_l (w:World) (ty e:TypeId) (hu:P.underlying ty=some (.slice e)) (x lo:Operand) (ho:op.op=.slice ty x (some lo) none none) (vx vl v:Value) (hx:a.eval x=vx) (hl:a.eval lo=vl)
  (hr:(Instr.slice ty vx (some vl) none none).run P w=.ok v w):(execOp a.eval op).run P w=.ok (.value v) w:=by
 unfold execOp
 simp only[ho,Option.map_some,Option.map_none,hx,hl,Sem.run_bind,Sem.run_pure,Result.andThen_ok,Instr.sliceAt,run_underlying hu,hr]
theorem exec_load_row (w:World) (ty:TypeId) (x:Operand) (ho:op.op=.load ty x) (g:Nat) (hx:a.eval x=.pointer (some ⟨g,0,none⟩)) (t:TypeId) (cs:Array Value) (fr:Nat × Nat) (d:TypeDesc) (hg:w.heap[g]?=some (.cells cs t fr))
  (hu:P.underlying ty=some d) (hd:(match d with | .struct _ | .array _ _=>true | _=>false)=true) (hi:(P.info? ty).map (·.size)=some cs.size):(execOp a.eval op).run P w=.ok (.value (.agg cs)) w:=by
 unfold execOp
 simp only[ho,hx,Instr.loadAt,Instr.sureAddr,Sem.run_bind,Sem.run_pure,Result.andThen_ok,run_loadVar_row w g t ty cs fr d hg hu hd hi]
end
section
variable {P:Program} {md:Region.Mode} {ops:Array Oper} {Q:Exit→Act→World→Prop} {S:World→Prop} {ds:List Nat}
theorem three_ {i j k:Nat} {Ni Nj Nk:Option Tmp} {oi oj ok:Oper} {fuel:Nat} {l:Array Bool} {a:Act} {w:World} (li lj lk:Array Bool) (hi:ops[i]?=some oi) (hj:ops[j]?=some oj) (hk:ops[k]?=some ok) (hc:(Region.ready md ops l == [i,j,k] && l.setIfInBounds i true == li && l.setIfInBounds j true == lj && l.setIfInBounds k true == lk)=true)
  (hNi:oi.dst=Ni) (hNj:oj.dst=Nj) (hNk:ok.dst=Nk) (hdi:i ∉ ds) (hdj:j ∉ ds) (hdk:k ∉ ds)
  (h1:∀ K:Act→World→Prop,Shut (∀ a' w',S w'→(S w'→wpAnyLast P md ops Q S ds fuel li a' w')→K a' w')→if Region.wanted oi (yielded ops a.tmps)=true then Oper.wp P oi a w K Q else K (a.put Ni undef) w)
  (h2:∀ K:Act→World→Prop,Shut (∀ a' w',S w'→(S w'→wpAnyLast P md ops Q S ds fuel lj a' w')→K a' w')→if Region.wanted oj (yielded ops a.tmps)=true then Oper.wp P oj a w K Q else K (a.put Nj undef) w)
  (h3:∀ K:Act→World→Prop,Shut (∀ a' w',S w'→(S w'→wpAnyLast P md ops Q S ds fuel lk a' w')→K a' w')→if Region.wanted ok (yielded ops a.tmps)=true then Oper.wp P ok a w K Q else K (a.put Nk undef) w) :
  wpAnyLast P md ops Q S ds (fuel+1) l a w:=by
 subst hNi
 subst hNj
 subst hNk
 simp only[Bool.and_eq_true,beq_iff_eq] at hc
 obtain ⟨⟨⟨h4,h5⟩,h6⟩,h7⟩:=hc
 subst h5
 subst h6
 subst h7
 exact wpAnyLast_ready h4 (by simp) (AllReadyL.cons hi hdi (fun K hK=>h1 K hK) (AllReadyL.cons hj hdj (fun K hK=>h2 K hK) (AllReadyL.cons hk hdk (fun K hK=>h3 K hK) AllReadyL.nil)))
end
theorem own_ne {w:World} {base e size n g:Nat} {v:Value} {xs:List Value} {cs:Array Value} {t:TypeId} {fr:Nat × Nat} (h:w.ownsRow base e size v n xs) (hg:w.heap[g]?=some (.cells cs t fr)) (ht:t≠e):∀ k,v.ownBlock=some k→k≠g:=by
 rintro k hk rfl
 rcases h.2 with ⟨rfl,_⟩ | ⟨g',cap,cur,rfl,_,hgg,_⟩
 ·simp[Value.ownBlock] at hk
 simp[Value.ownBlock] at hk
 subst hk
 rw[hg] at hgg
 exact ht (by injection hgg with e;injection e)
theorem heap_setCells_mid {g:Nat} {t:TypeId} (vs:List Value):∀ (o:Nat) (w:World) (cur:Array Value),w.heap[g]?=some (.cells cur t (0,0))→o+vs.length≤cur.size →
  (w.setCells g o vs).heap[g]?=some (.cells (cur.toList.take o++vs++cur.toList.drop (o+vs.length)).toArray t (0,0)):=by
 induction vs with
 |nil=>intro o w cur h _;rw[World.setCells];simpa using h
 |cons v vs ih=>
  intro o w cur h hs
  simp only[List.length_cons] at hs
  have h1:=heap_setCell_same w g o cur t v h
  have h2:=ih (o+1) _ _ h1 (by simp only[Array.size_setIfInBounds];omega)
  refine h2.trans ?_
  have e1:(cur.setIfInBounds o v).toList.take (o+1)=cur.toList.take o ++ [v]:=by
   rw[Array.toList_setIfInBounds,List.take_succ_eq_append_getElem (by simp;omega)]
   congr 1
   ·rw[List.take_set_of_le (Nat.le_refl _)]
   simp
  have e2:(cur.setIfInBounds o v).toList.drop (o+1+vs.length)=cur.toList.drop (o+(v :: vs).length):=by
   rw[Array.toList_setIfInBounds,List.drop_set_of_lt (by omega),List.length_cons]
   congr 1;omega
  rw[e1,e2,List.append_assoc (cur.toList.take o)]
  rfl
section
variable {P:Program}
theorem run_index_row (T E:TypeId) (n sz:Nat) (cs:Array Value) (i:Nat) (hu:P.underlying T=some (.array n E)) (hs:(P.info? E).map (·.size)=some sz) (d:TypeDesc) (hE:P.underlying E=some d)
  (hd:(match d with | .struct _ | .array _ _=>true | _=>false)=true) (hi:i<n) (w:World) :
  (Instr.index T (.agg cs) (.int .i64 (i:Int))).run P w=.ok (.agg (cs.extract (i*sz) (i*sz+sz))) w:=by
 have hag:(isAgg E).run P w=.ok true w:=by
  unfold isAgg
  rw[Sem.run_bind,run_underlying hE w]
  cases d <;> simp_all
 cases hq:P.info? E with
 |none=>simp[hq] at hs
 |some ie=>
  have hz:ie.size=sz:=by simpa [hq] using hs
  have hz':(sizeOf E).run P w=.ok sz w:=by simp[sizeOf,typeInfo,hq,hz]
  have hp:(part E cs (i*sz)).run P w=.ok (.agg (cs.extract (i*sz) (i*sz+sz))) w:=by
   unfold part
   rw[Sem.run_bind,hag]
   simp only[Result.andThen_ok,if_true,Sem.run_bind,hz',Sem.run_pure]
  unfold Instr.index
  simp only[asIntOf,Sem.run_bind,Sem.run_pure,Result.andThen_ok,run_underlying hu]
  rw[if_pos (by omega)]
  simp only[Sem.run_bind,hz',Result.andThen_ok,Int.toNat_natCast,hp]
end
end Go.Proofs.Ytbajioiiaamokaa.Own
