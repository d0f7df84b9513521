/- ShH, pruned (slim.py). -/
import Derived.Test.YtbajioiiaamokaaZB12
import Derived.Deep.AppendSrc
import Derived.Deep.Upon
namespace Go.Proofs.Ytbajioiiaamokaa.Own
open Go.RowKit Go.Proofs.Ytbajioiiaamokaa.Arr Go.Proofs.Ytbajioiiaamokaa.QB Go.Proofs.YtbajioiiaamokaaW.PrintWords Go.Proofs.YtbajioiiaamokaaW.PrintLast Go.Proofs.YtbajioiiaamokaaW.PrintMore
set_option linter.unusedVariables false
set_option linter.unusedSimpArgs false
def hcs (st:List Int) (R:Value) (n:Int) (bg:Bool):Array Value:=(st.map (Value.int .u32) ++ [R,.int .i64 n,.bool bg]).toArray
theorem hcs_get8 {st:List Int} (h:st.length=8) (R:Value) (n:Int) (bg:Bool):(hcs st R n bg)[8]?=some R:=by
 obtain ⟨a,b,c,d,e,f,g,i,rfl⟩:=eight st h;rfl
theorem hcs_get9 {st:List Int} (h:st.length=8) (R:Value) (n:Int) (bg:Bool):(hcs st R n bg)[9]?=some (.int .i64 n):=by
 obtain ⟨a,b,c,d,e,f,g,i,rfl⟩:=eight st h;rfl
theorem hcs_get10 {st:List Int} (h:st.length=8) (R:Value) (n:Int) (bg:Bool):(hcs st R n bg)[10]?=some (.bool bg):=by
 obtain ⟨a,b,c,d,e,f,g,i,rfl⟩:=eight st h;rfl
theorem hcs_set8 {st:List Int} (h:st.length=8) (R R':Value) (n:Int) (bg:Bool):(hcs st R n bg).setIfInBounds 8 R'=hcs st R' n bg:=by
 obtain ⟨a,b,c,d,e,f,g,i,rfl⟩:=eight st h;rfl
theorem hcs_set9 {st:List Int} (h:st.length=8) (R:Value) (n n':Int) (bg:Bool):(hcs st R n bg).setIfInBounds 9 (.int .i64 n')=hcs st R n' bg:=by
 obtain ⟨a,b,c,d,e,f,g,i,rfl⟩:=eight st h;rfl
abbrev hobj (st:List Int) (R:Value) (n:Int) (bg:Bool):Obj:=.cells (hcs st R n bg) 141 (0,0)
section
variable {w:World} {g:Nat} {st:List Int} {R:Value} {n:Int} {bg:Bool}
theorem hcell8 (hs:st.length=8) (h:w.heap[g]?=some (hobj st R n bg)):w.cell? ⟨g,8,none⟩=some R:=by rw[cell_of_row w g 8 _ _ _ h];exact hcs_get8 hs _ _ _
theorem hcell9 (hs:st.length=8) (h:w.heap[g]?=some (hobj st R n bg)):w.cell? ⟨g,9,none⟩=some (.int .i64 n):=by rw[cell_of_row w g 9 _ _ _ h];exact hcs_get9 hs _ _ _
theorem hcell10 (hs:st.length=8) (h:w.heap[g]?=some (hobj st R n bg)):w.cell? ⟨g,10,none⟩=some (.bool bg):=by rw[cell_of_row w g 10 _ _ _ h];exact hcs_get10 hs _ _ _
theorem hfree (h:w.heap[g]?=some (hobj st R n bg)) (j:Nat):w.frozen? ⟨g,j,none⟩=false:=frozen_of_row w g j _ _ h
theorem hrange (hs:st.length=8) (h:w.heap[g]?=some (hobj st R n bg)):w.rangeAt g 0 (st.map (Value.int .u32)):=fun j v hj=>by
 rw[Nat.zero_add,cell_of_row w g j _ _ _ h]
 obtain ⟨hl,rfl⟩:=List.getElem?_eq_some_iff.1 hj
 rw[hcs,List.getElem?_toArray,List.getElem?_append_left hl]
 exact hj
theorem hthere (hs:st.length=8) (h:w.heap[g]?=some (hobj st R n bg)):w.there g 0 8:=fun j hj=>by
 refine ⟨?_,by rw[Nat.zero_add];exact hfree h j⟩
 have:=hrange hs h j ((st.map (Value.int .u32))[j]'(by simp[hs];omega)) (List.getElem?_eq_getElem _)
 rw[this];rfl
theorem hset8 (hs:st.length=8) (h:w.heap[g]?=some (hobj st R n bg)) (R':Value):(w.setCell ⟨g,8,none⟩ R').heap[g]?=some (hobj st R' n bg):=by
 rw[heap_setCell_same _ _ _ _ _ _ h,hcs_set8 hs]
theorem hset9 (hs:st.length=8) (h:w.heap[g]?=some (hobj st R n bg)) (n':Int):(w.setCell ⟨g,9,none⟩ (.int .i64 n')).heap[g]?=some (hobj st R n' bg):=by
 rw[heap_setCell_same _ _ _ _ _ _ h,hcs_set9 hs]
theorem setCells_heap:∀ (vs:List Value) (o:Nat) (w:World) (cs:Array Value) (t:TypeId),w.heap[g]?=some (.cells cs t (0,0))→∃ cs',(w.setCells g o vs).heap[g]?=some (.cells cs' t (0,0))∧cs'.size=cs.size∧(∀ j,cs'[j]?=if o≤j∧j<o+vs.length∧j<cs.size then vs[j - o]? else cs[j]?)
 |[],o,w,cs,t,h=>⟨cs,h,rfl,fun j=>by rw[if_neg (by simp;omega)]⟩
 |v :: r,o,w,cs,t,h=>by
  obtain ⟨cs',h1,h2,h3⟩:=setCells_heap r (o+1) (w.setCell ⟨g,o,none⟩ v) (cs.setIfInBounds o v) t (heap_setCell_same _ _ _ _ _ _ h)
  refine ⟨cs',h1,by rw[h2];simp,fun j=>?_⟩
  rw[h3 j,Array.size_setIfInBounds,Array.getElem?_setIfInBounds,List.length_cons]
  by_cases e1:o+1≤j∧j<o+1+r.length∧j<cs.size
  ·rw[if_pos e1,if_pos (by omega),show j - o=(j - (o+1))+1 from by omega];rfl
  rw[if_neg e1]
  by_cases e2:o=j
  ·subst e2
   rw[if_pos rfl]
   by_cases e3:o<cs.size
   ·rw[if_pos e3,if_pos (by omega)];simp
   rw[if_neg e3,if_neg (by omega)];rw[Array.getElem?_eq_none (by omega)]
  rw[if_neg e2,if_neg (by omega)]
theorem setCells_other:∀ (vs:List Value) (o:Nat) (w:World) (k:Nat),k≠g→(w.setCells g o vs).heap[k]?=w.heap[k]?
 |[],o,w,k,h=>rfl
 |v :: r,o,w,k,h=>by rw[World.setCells,setCells_other r _ _ _ h,heap_setCell_other _ _ _ _ h]
theorem setCells_size:∀ (vs:List Value) (o:Nat) (w:World),(w.setCells g o vs).heap.size=w.heap.size
 |[],o,w=>rfl
 |v :: r,o,w=>by rw[World.setCells,setCells_size r];simp[World.setCell]
theorem setCells_rest:∀ (vs:List Value) (o:Nat) (w:World),(w.setCells g o vs).os=w.os∧(w.setCells g o vs).tape=w.tape∧(w.setCells g o vs).output=w.output
 |[],o,w=>⟨rfl,rfl,rfl⟩
 |v :: r,o,w=>by rw[World.setCells];exact setCells_rest r _ _
theorem hsetS (hs:st.length=8) (h:w.heap[g]?=some (hobj st R n bg)) (st':List Int) (hs':st'.length=8):(w.setCells g 0 (st'.map (Value.int .u32))).heap[g]?=some (hobj st' R n bg):=by
 obtain ⟨cs',h1,h2,h3⟩:=setCells_heap (st'.map (Value.int .u32)) 0 w _ _ h
 rw[h1]
 congr 2
 apply Array.ext_getElem?
 intro j
 have hsz:(hcs st R n bg).size=11:=by simp[hcs,hs]
 rw[h3 j,hsz]
 simp only[List.length_map,hs',Nat.zero_add,Nat.zero_le,true_and,Nat.sub_zero,hcs,List.getElem?_toArray]
 by_cases hj:j<8
 ·rw[if_pos (by omega),List.getElem?_append_left (by simp[hs'];omega)]
 rw[if_neg (by omega),List.getElem?_append_right (by simp[hs];omega),List.getElem?_append_right (by simp[hs'];omega)]
 simp[hs,hs']
end
structure Chg (g:Nat) (w w':World):Prop where
 os:w'.os=w.os
 tape:w'.tape=w.tape
 output:w'.output=w.output
 size:w.heap.size≤w'.heap.size
 block:∀ k,k<w.heap.size→k≠g→w'.heap[k]?=w.heap[k]?
theorem Chg.refl (g:Nat) (w:World):Chg g w w:=⟨rfl,rfl,rfl,Nat.le_refl _,fun _ _ _=>rfl⟩
theorem Chg.trans {g:Nat} {w w1 w2:World} (h:Chg g w w1) (k:Chg g w1 w2):Chg g w w2:=
 ⟨k.os.trans h.os,k.tape.trans h.tape,k.output.trans h.output,Nat.le_trans h.size k.size,fun i hi hg=>(k.block i (Nat.lt_of_lt_of_le hi h.size) hg).trans (h.block i hi hg)⟩
theorem Chg.of_below {g:Nat} {w w1:World} (h:Below w.heap.size w w1):Chg g w w1:=⟨h.os,h.tape,h.output,h.size,fun k hk _=>h.block k hk⟩
theorem Chg.below {g B:Nat} {w w1:World} (h:Chg g w w1) (hg:B≤g) (hB:B≤w.heap.size):Below B w w1:=⟨h.os,h.tape,h.output,h.size,fun k hk=>h.block k (by omega) (by omega)⟩
theorem Chg.setCell {g:Nat} {w w1:World} (h:Chg g w w1) (o:Nat) (v:Value):Chg g w (w1.setCell ⟨g,o,none⟩ v):=
 h.trans ⟨rfl,rfl,rfl,by simp[World.setCell],fun k _ hg=>heap_setCell_other _ _ _ _ hg⟩
theorem Chg.setCells {g:Nat} {w w1:World} (h:Chg g w w1) (o:Nat) (vs:List Value):Chg g w (w1.setCells g o vs):=
 h.trans ⟨(setCells_rest vs o w1).1,(setCells_rest vs o w1).2.1,(setCells_rest vs o w1).2.2,by rw[setCells_size];exact Nat.le_refl _,fun k _ hg=>setCells_other vs o w1 k hg⟩
theorem Chg.drewN {g:Nat} {w w1:World} (h:Chg g w w1) (m:Nat):Chg g w (w1.drewN m):=h.trans ⟨rfl,rfl,rfl,Nat.le_refl _,fun _ _ _=>rfl⟩
theorem Chg.drew {g:Nat} {w w1:World} (h:Chg g w w1):Chg g w w1.drew:=h.trans ⟨rfl,rfl,rfl,Nat.le_refl _,fun _ _ _=>rfl⟩
theorem Chg.alloc {g:Nat} {w w1:World} (h:Chg g w w1) (o:Obj):Chg g w (w1.alloc o):=
 h.trans (Chg.of_below ((Below.refl _ _).alloc (Nat.le_refl _) o))
def Rd (w:World) (g:Nat) (A:Option Addr) (l:List Int):Prop:=
 l.length≤9223372036854775807∧(0<l.length→∃ b o,A=some ⟨b,o,none⟩∧b≠g∧w.rangeAt b o (l.map (Value.int .u8)))
theorem Rd.nil (w:World) (g:Nat) (A:Option Addr):Rd w g A []:=⟨by simp,fun h=>absurd h (by simp)⟩
theorem Rd.lt {w:World} {g:Nat} {A:Option Addr} {l:List Int} {b o:Nat} (hl:0<l.length) (h:w.rangeAt b o (l.map (Value.int .u8))):b<w.heap.size:=by
 have:=h 0 ((l.map (Value.int .u8))[0]'(by simpa using hl)) (List.getElem?_eq_getElem _)
 exact World.block_lt_of_cell? _ _ this
theorem range_keep {w w':World} {b o:Nat} {cs:List Value} (h:w.rangeAt b o cs) (e:w'.heap[b]?=w.heap[b]?):w'.rangeAt b o cs:=fun j v hj=>(World.cell?_of_block (a:=⟨b,o+j,none⟩) e).trans (h j v hj)
theorem Rd.keep {w w':World} {g:Nat} {A:Option Addr} {l:List Int} (h:Rd w g A l) (hc:Chg g w w'):Rd w' g A l:=
 ⟨h.1,fun hl=>by
  obtain ⟨b,o,rfl,hb,hr⟩:=h.2 hl
  exact ⟨b,o,rfl,hb,range_keep hr (hc.block b (Rd.lt (A:=none) (g:=g) hl hr) hb)⟩⟩
theorem C_of_range {w:World} {b o:Nat} {l:List Int} (hm:l.length≤9223372036854775807) (h:w.rangeAt b o (l.map (Value.int .u8))):Kd.C (Kd.int .u8) w (some ⟨b,o,none⟩) l.length l:=
 C_of_readsInt ⟨rfl,hm,fun _=>⟨_,rfl,fun j hj=>by rw[Addr.add_mid];exact C_cell h j hj⟩⟩
theorem Rd.toC {w:World} {g:Nat} {A:Option Addr} {l:List Int} (h:Rd w g A l):Kd.C (Kd.int .u8) w A l.length l:=by
 rcases Nat.eq_zero_or_pos l.length with h0 | h0
 ·exact C_of_readsInt ⟨rfl,h.1,fun hp=>absurd hp (by omega)⟩
 obtain ⟨b,o,rfl,_,hr⟩:=h.2 h0
 exact C_of_range h.1 hr
theorem Rd.ofC {w:World} {g:Nat} {A:Option Addr} {l:List Int} (h:Kd.C (Kd.int .u8) w A l.length l) (hg:∀ ad,A=some ad→ad.block≠g):Rd w g A l:=
 ⟨(readsInt_of_C h).2.1,fun hl=>by
  obtain ⟨b,o,rfl,hr⟩:=C_range h hl
  exact ⟨b,o,rfl,hg _ rfl,hr⟩⟩
theorem Rd.old {w:World} {g:Nat} {A:Option Addr} {l:List Int} (h:Kd.C (Kd.int .u8) w A l.length l) (hg:w.heap.size≤g):Rd w g A l:=
 ⟨(readsInt_of_C h).2.1,fun hl=>by
  obtain ⟨b,o,rfl,hr⟩:=C_range h hl
  exact ⟨b,o,rfl,by have:=Rd.lt (A:=none) (g:=g) hl hr;omega,hr⟩⟩
theorem Rd.drop {w:World} {g:Nat} {A:Option Addr} {l:List Int} (h:Rd w g A l) (m:Nat):Rd w g (A.map (·.add m)) (l.drop m):=
 ⟨by rw[List.length_drop];have:=h.1;omega,fun hl=>by
  rw[List.length_drop] at hl
  obtain ⟨b,o,rfl,hb,hr⟩:=h.2 (by omega)
  refine ⟨b,o+m,by simp[Addr.add_mid],hb,fun j v hj=>?_⟩
  rw[Nat.add_assoc]
  refine hr (m+j) v ?_
  rw[List.map_drop,List.getElem?_drop] at hj
  exact hj⟩
theorem Rd.take {w:World} {g:Nat} {A:Option Addr} {l:List Int} (h:Rd w g A l) (m:Nat):Rd w g A (l.take m):=
 ⟨by rw[List.length_take];have:=h.1;omega,fun hl=>by
  rw[List.length_take] at hl
  obtain ⟨b,o,rfl,hb,hr⟩:=h.2 (by omega)
  refine ⟨b,o,rfl,hb,fun j v hj=>hr j v ?_⟩
  rw[List.map_take] at hj
  rw[List.getElem?_take] at hj
  split at hj
  ·exact hj
  cases hj⟩
theorem Rd.drop' {w:World} {g:Nat} {A A2:Option Addr} {l:List Int} (h:Rd w g A l) (m:Nat) (h2:∀ b o,A=some ⟨b,o,none⟩→m<l.length→A2=some ⟨b,o+m,none⟩):Rd w g A2 (l.drop m):=
 ⟨by rw[List.length_drop];have:=h.1;omega,fun hl=>by
  rw[List.length_drop] at hl
  obtain ⟨b,o,rfl,hb,hr⟩:=h.2 (by omega)
  refine ⟨b,o+m,h2 b o rfl (by omega),hb,fun j v hj=>?_⟩
  rw[Nat.add_assoc]
  refine hr (m+j) v ?_
  rw[List.map_drop,List.getElem?_drop] at hj
  exact hj⟩
structure HashAt (w:World) (g:Nat) (st:List Int) (A:Option Addr) (c:Nat) (l:List Int) (n:Int) (bg:Bool):Prop where
 st8:st.length=8
 obj:w.heap[g]?=some (hobj st (.slice A l.length c) n bg)
 rd:Rd w g A l
 cap:l.length≤c
theorem HashAt.below {w w':World} {g:Nat} {st:List Int} {A:Option Addr} {c:Nat} {l:List Int} {n:Int} {bg:Bool} (h:HashAt w g st A c l n bg) (hb:Below w.heap.size w w'):HashAt w' g st A c l n bg:=
 ⟨h.st8,heap_below h.obj hb,h.rd.keep (Chg.of_below hb),h.cap⟩
theorem elem22:Try.prog.elem 23=5:=by simp[Program.elem,Try.underlying23]
theorem und22:Try.prog.underlying 23=some (.slice (Try.prog.elem 23)):=by rw[elem22];exact Try.underlying23
theorem add_zero_map (A:Option Addr):Option.map (fun x=>x.add 0) A=A:=by
 cases A with
 |none=>rfl
 |some a=>obtain ⟨b,o,s⟩:=a;cases s <;> simp[Addr.add]
theorem cut_to (A:Option Addr) (n c m:Nat) (hm:m≤c) (W:World):(Instr.slice 23 (.slice A n c) none (some (.int .i64 (m:Int))) none).run Try.prog W=.ok (.slice A m c) W:=by
 obtain ⟨i0,hi,_,hs,_⟩:=info_parts info5
 rw[run_slice_h W _ A n c und22 .i64 (m:Int) (Int.natCast_nonneg _) (by omega),elem22]
 simp[sizeOf,typeInfo,hi,hs,sliced,Result.andThen,add_zero_map]
theorem cut_from (A:Option Addr) (n c m:Nat) (hm:m≤n) (W:World):(Instr.slice 23 (.slice A n c) (some (.int .i64 (m:Int))) none none).run Try.prog W=.ok (.slice (if c=m then A else A.map (·.add m)) (n - m) (c - m)) W:=by
 obtain ⟨i0,hi,_,hs,_⟩:=info_parts info5
 rw[run_slice_l W _ A n c und22 .i64 (m:Int) (Int.natCast_nonneg _) (by omega),elem22]
 simp[sizeOf,typeInfo,hi,hs,sliced,Result.andThen]
theorem cut_full (A:Option Addr) (n c:Nat) (hn:n≤c) (W:World):(Instr.slice 23 (.slice A n c) none (some (.int .i64 (n:Int))) (some (.int .i64 (n:Int)))).run Try.prog W=.ok (.slice A n n) W:=by
 obtain ⟨i0,hi,_,hs,_⟩:=info_parts info5
 rw[run_slice_hm W _ A n c und22 .i64 .i64 (n:Int) (n:Int) (Int.natCast_nonneg _) (Int.le_refl _) (by omega),elem22]
 simp[sizeOf,typeInfo,hi,hs,sliced,Result.andThen,add_zero_map]
theorem u8_one (l:List Int):∀ u ∈ l.map (Value.int .u8),u.oneCell'=true:=by
 intro u hu
 obtain ⟨x,_,rfl⟩:=List.mem_map.1 hu
 rfl
theorem src_of_C {w:World} {A:Option Addr} {c:Nat} {l:List Int} (h:Kd.C (Kd.int .u8) w A l.length l):Src Try.prog 1 23 (.slice A l.length c) l.length (l.map (Value.int .u8)) w:=by
 rcases Nat.eq_zero_or_pos l.length with h0 | h0
 ·obtain rfl:=List.length_eq_zero_iff.1 h0
  refine ⟨.inl ⟨_,Try.underlying23⟩,fun _=>rfl,?_,?_,rfl,fun _ h=>by cases h⟩ <;>
   (cases A <;> simp[Builtin.firstCells,loadCells,loadCellsFrom])
 obtain ⟨b,o,rfl,hr⟩:=C_range h h0
 exact Src.ofSlice w Try.underlying23 _ _ _ _ (by simp) (fun j u hj=>by rw[Addr.add_mid];exact hr j u hj) (u8_one l)
theorem first_of_C {w:World} {A:Option Addr} {c:Nat} {l:List Int} (h:Kd.C (Kd.int .u8) w A l.length l):(Builtin.firstCells 1 l.length (.slice A l.length c)).run Try.prog w=.ok (l.map (Value.int .u8)).toArray w:=(src_of_C h).cells
theorem append_full {w:World} {A:Option Addr} {l:List Int} {B:Option Addr} {cb:Nat} {m:List Int} (ty:TypeId) (hl:Kd.C (Kd.int .u8) w A l.length l) (hm:Kd.C (Kd.int .u8) w B m.length m) (hb:l.length+m.length≤70368744177664) :
  ∃ A' c' w',(Builtin.append_ #[23,23] ty #[.slice A l.length l.length,.slice B m.length cb]).run Try.prog w=.ok (.slice A' (l++m).length c') w'∧Kd.C (Kd.int .u8) w' A' (l++m).length (l++m)∧(l++m).length≤c'∧Below w.heap.size w w'∧(A'=A∧m=[]∨A'=some ⟨w.heap.size,0,none⟩):=by
 obtain ⟨i0,hi,hz,hs,hby⟩:=info_parts info5
 rcases Nat.eq_zero_or_pos m.length with h0 | h0
 ·obtain rfl:=List.length_eq_zero_iff.1 h0
  rw[List.append_nil]
  have hsrc:=src_of_C (c:=cb) hm
  refine ⟨A,l.length,w,?_,hl,Nat.le_refl _,Below.refl _ _,.inl ⟨rfl,rfl⟩⟩
  exact run_append_nothing w _ _ ty _ i0 Try.underlying23 hi A l.length l.length (Nat.le_refl _) _ (by rw[hs];exact hsrc)
 have hsrc:=src_of_C (c:=cb) hm
 have hg:l.length<l.length+m.length:=by omega
 have hcap:=nextslicecap_le hg
 have hld:Kd.C (Kd.int .u8) w.drew A l.length l:=Kd.C_below hl (below_drew (Below.refl _ _))
 have hrun:=run_append_grow_src (P:=Try.prog) w 23 23 ty _ i0 (.int .u8 0) Try.underlying23 hi hz A l.length l.length (l.map (Value.int .u8)) (by rw[hs];exact first_of_C hld) (.slice B m.length cb) m.length (m.map (Value.int .u8)) (by rw[hs];exact hsrc) hg (by omega) (by rw[hby];omega)
 refine ⟨_,_,_,by rw[List.length_append];exact hrun,?_,?_,(below_drew (Below.refl _ _)).alloc (Nat.le_refl _) _,.inr rfl⟩
 ·have hheap:=heap_alloc_last w.drew (.cells (((l.map (Value.int .u8)++m.map (Value.int .u8)).toArray++Builtin.zeroCells (Value.int IntKind.u8 0).cells (grownCap w (l.length+m.length) l.length 5 - (l.length+m.length)))) 5 (0,0))
  refine C_of_range (by rw[List.length_append];omega) (fun j v hj=>?_)
  rw[Nat.zero_add]
  refine (cell_of_row _ _ j _ _ _ hheap).trans ?_
  have hj':=(List.getElem?_eq_some_iff.1 hj).1
  rw[List.length_map,List.length_append] at hj'
  rw[Array.getElem?_append_left (by simp;omega),List.getElem?_toArray,← List.map_append]
  exact hj
 rw[List.length_append];exact grownCap_ge _ _ _ _
section
variable {P:Program} {a:Act} {op:Oper}
theorem exec_load_mid (w:World) (ty:TypeId) (x:Operand) (ho:op.op=.load ty x) (b o:Nat) (hx:a.eval x=.pointer (some ⟨b,o,none⟩)) (cs:List Value) (d:TypeDesc) (hc:w.rangeAt b o cs)
  (hu:P.underlying ty=some d) (hd:d.isRow=true) (hi:(P.info? ty).map (·.size)=some cs.length):(execOp a.eval op).run P w=.ok (.value (.agg cs.toArray)) w:=by
 unfold execOp
 simp only[ho,hx,Instr.loadAt,Instr.sureAddr,Sem.run_bind,Sem.run_pure,Result.andThen_ok,run_loadVar_mid w b o ty cs d hc hu hd hi]
theorem exec_store_mid (w:World) (ty:TypeId) (x y:Operand) (ho:op.op=.store ty x y) (b o:Nat) (cells:Array Value) (hx:a.eval x=.pointer (some ⟨b,o,none⟩)) (hy:a.eval y=.agg cells)
  (ht:w.there b o cells.size) (hi:(P.info? ty).map (·.size)=some cells.size) (h1:cells.all (·.oneCell')=true):(execOp a.eval op).run P w=.ok .skip (w.setCells b o cells.toList):=by
 unfold execOp
 simp only[ho,hx,hy,Instr.storeAt,Instr.sureAddr,Sem.run_bind,Sem.run_pure,Result.andThen_ok,run_storeVar_mid w b o ty cells ht hi h1]
theorem exec_append (w:World) (x y:Operand) (t1 t2:TypeId) (ho:op.op=.call { callee:=.builtin .append,args:=#[x,y],argTypes:=#[t1,t2] }) {v:Value} {w1:World} (vx vy:Value) (hx:a.eval x=vx) (hy:a.eval y=vy)
  (hr:(Builtin.append_ #[t1,t2] op.type #[vx,vy]).run P w=.ok v w1):(execOp a.eval op).run P w=.ok (.value v) w1:=by
 unfold execOp
 simp only[ho,resolve,invoke,builtin,Sem.run_bind,Sem.run_pure,Result.andThen_ok,List.map_toArray,List.map_cons,List.map_nil,hx,hy,hr]
theorem exec_copy (w:World) (x y:Operand) (t1 t2:TypeId) (ho:op.op=.call { callee:=.builtin .copy,args:=#[x,y],argTypes:=#[t1,t2] }) {v:Value} {w1:World} (vx vy:Value) (hx:a.eval x=vx) (hy:a.eval y=vy)
  (hr:(Builtin.copy_ #[t1,t2] op.type #[vx,vy]).run P w=.ok v w1):(execOp a.eval op).run P w=.ok (.value v) w1:=by
 unfold execOp
 simp only[ho,resolve,invoke,builtin,Sem.run_bind,Sem.run_pure,Result.andThen_ok,List.map_toArray,List.map_cons,List.map_nil,hx,hy,hr]
end
theorem there8 {w:World} {g:Nat} {st:List Int} {R:Value} {n:Int} {bg:Bool} (hs:st.length=8) (h:w.heap[g]?=some (hobj st R n bg)) {T:List Int} (hT:T.length=8):w.there g 0 (ints .u32 T).size:=by
 rw[ints_size,hT];exact hthere hs h
end Go.Proofs.Ytbajioiiaamokaa.Own
