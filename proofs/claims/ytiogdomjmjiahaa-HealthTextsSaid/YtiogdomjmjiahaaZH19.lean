/- HtB, pruned (slim.py). -/
import Derived.Test.YtiogdomjmjiahaaZH18
namespace Go.Proofs.Ytiogdomjmjiahaa.Own
open Go.RowKit Go.Proofs.Ytiogdomjmjiahaa.Arr Go.Proofs.Ytiogdomjmjiahaa.QA Go.Proofs.Ytiogdomjmjiahaa.QB Go.Proofs.YtiogdomjmjiahaaW.PrintWords Go.Proofs.YtiogdomjmjiahaaW.PrintLast Go.Proofs.YtiogdomjmjiahaaW.PrintMore
set_option linter.unusedVariables false
set_option linter.unusedSimpArgs false
abbrev repc (A:Option Addr) (n c:Nat) (f:Nat→Int) (b:Nat→Bool) (p:Nat→Nat→Int) (e u:Int) (ro:Bool):Array Value:=
 #[.slice A n c,.int .i64 (f 1),.int .i64 (f 2),.int .i64 (f 3),.int .i64 (f 4),.int .i64 (f 5),.int .i64 (f 6),.int .i64 (f 7),.int .i64 (f 8),
  .bool (b 0),.int .i64 (p 0 1),.int .i64 (p 0 2),.int .i64 (p 0 3),.int .i64 (p 0 4),.int .i64 (p 0 5),
  .bool (b 1),.int .i64 (p 1 1),.int .i64 (p 1 2),.int .i64 (p 1 3),.int .i64 (p 1 4),.int .i64 (p 1 5),
  .bool (b 2),.int .i64 (p 2 1),.int .i64 (p 2 2),.int .i64 (p 2 3),.int .i64 (p 2 4),.int .i64 (p 2 5),
  .bool (b 3),.int .i64 (p 3 1),.int .i64 (p 3 2),.int .i64 (p 3 3),.int .i64 (p 3 4),.int .i64 (p 3 5),
  .int .u64 e,.int .u64 u,.bool ro]
theorem info51:(Try.prog.info? 51).map (fun i=>(i.zero,i.size))=some (some (.agg (repc none 0 0 (fun _=>0) (fun _=>false) (fun _ _=>0) 0 0 false)),36):=by kernel_rfl
theorem rep_cells {A:Option Addr} {n c:Nat} {f:Nat→Int} {b:Nat→Bool} {p:Nat→Nat→Int} {e u:Int} {ro:Bool} {w:World} {g:Nat} {t:TypeId} (h:w.heap[g]?=some (.cells (repc A n c f b p e u ro) t (0,0))) :
  w.cell? ⟨g,0,none⟩=some (.slice A n c)∧w.cell? ⟨g,1,none⟩=some (.int .i64 (f 1))∧w.cell? ⟨g,2,none⟩=some (.int .i64 (f 2))∧w.cell? ⟨g,3,none⟩=some (.int .i64 (f 3))∧w.cell? ⟨g,4,none⟩=some (.int .i64 (f 4))∧w.cell? ⟨g,5,none⟩=some (.int .i64 (f 5))∧w.cell? ⟨g,6,none⟩=some (.int .i64 (f 6))∧w.cell? ⟨g,7,none⟩=some (.int .i64 (f 7))∧w.cell? ⟨g,8,none⟩=some (.int .i64 (f 8))∧w.cell? ⟨g,33,none⟩=some (.int .u64 e)∧w.cell? ⟨g,34,none⟩=some (.int .u64 u)∧w.cell? ⟨g,35,none⟩=some (.bool ro):=
 ⟨(blk_cell h 0).trans rfl,(blk_cell h 1).trans rfl,(blk_cell h 2).trans rfl,(blk_cell h 3).trans rfl,(blk_cell h 4).trans rfl,(blk_cell h 5).trans rfl,(blk_cell h 6).trans rfl,(blk_cell h 7).trans rfl,(blk_cell h 8).trans rfl,(blk_cell h 33).trans rfl,(blk_cell h 34).trans rfl,(blk_cell h 35).trans rfl⟩
def T0:List Int:=[101,112,111,99,104,32]
def T2:List Int:=[32,99,111,117,110,116,101,114,32]
def TRo:List Int:=[32,114,101,97,100,111,110,108,121]
def hdL (e u:Nat):List Int:=T0++decL e++T2++decL u
theorem hdL_len (e u:Nat):(hdL e u).length≤55:=by
 have:=decL_len e;have:=decL_len u
 unfold hdL T0 T2;simp;omega
def TEr:List Int:=[10,101,114,97,115,101,115]
def eL (E:List Int):List Int:=E.flatMap fun n=>[] ++ [32]++numLs n
theorem eL_len (E:List Int):(eL E).length≤E.length*22:=by
 induction E with
 |nil=>simp[eL]
 |cons x E ih=>
  have:=numLs_len x
  unfold eL at ih ⊢
  rw[List.flatMap_cons,List.length_append]
  simp only[List.length_append,List.length_nil,List.length_singleton,List.length_cons] at ih ⊢
  omega
theorem eL_succ (E:List Int) (k:Nat) (h:k<E.length):eL (E.take (k+1))=eL (E.take k)++([] ++ [32]++numLs (E.getD k 0)):=by
 unfold eL
 rw[List.take_succ_eq_append_getElem h,List.flatMap_append]
 simp[List.getD_eq_getElem?_getD,List.getElem?_eq_getElem h]
def roL (ro:Bool):List Int:=if ro=true then TRo else []
theorem htext_len {L s:List Int} {n:Int} {a:Nat} (h:L.length≤a) (hs:s.length≤1000):(L++(s ++ [32]++numLs n)).length≤a+1100:=by
 have:=numLs_len n
 simp only[List.length_append,List.length_singleton]
 omega
abbrev spacl (b:Nat→Bool) (p:Nat→Nat→Int) (j:Nat):List Value:=[.bool (b j),.int .i64 (p j 1),.int .i64 (p j 2),.int .i64 (p j 3),.int .i64 (p j 4),.int .i64 (p j 5)]
abbrev spaces (b:Nat→Bool) (p:Nat→Nat→Int):List Value:=spacl b p 0++(spacl b p 1++(spacl b p 2++spacl b p 3))
abbrev zSp:Array Value:=(spacl (fun _=>false) (fun _ _=>0) 0).toArray
theorem infoSp:(Try.prog.info? 43).map (fun i=>(i.zero,i.size))=some (some (.agg zSp),6):=by kernel_rfl
theorem szSp:(Try.prog.info? 43).map (·.size)=some 6:=by kernel_rfl
theorem szSp4:(Try.prog.info? 44).map (·.size)=some 24:=by kernel_rfl
theorem szSq:(Try.prog.info? 48).map (·.size)=some 6:=by kernel_rfl
theorem spacl_one (b:Nat→Bool) (p:Nat→Nat→Int) (j:Nat):(spacl b p j).toArray.all (·.oneCell')=true:=by simp[Value.oneCell']
theorem four4 {P:Nat→Prop} (h0:P 0) (h1:P 1) (h2:P 2) (h3:P 3) (k:Nat) (hk:k<4):P k:=by
 match k,hk with
 |0,_=>exact h0
 |1,_=>exact h1
 |2,_=>exact h2
 |3,_=>exact h3
theorem spaces_extract (b:Nat→Bool) (p:Nat→Nat→Int) (j:Nat) (hj:j<4):(spaces b p).toArray.extract (j*6) (j*6+6)=(spacl b p j).toArray:=
 four4 (P:=fun j=>(spaces b p).toArray.extract (j*6) (j*6+6)=(spacl b p j).toArray) (by simp) (by simp) (by simp) (by simp) j hj
theorem spacl_cells {b:Nat→Bool} {p:Nat→Nat→Int} {j:Nat} {w:World} {g:Nat} {t:TypeId} (h:w.heap[g]?=some (.cells (spacl b p j).toArray t (0,0))) :
  w.cell? ⟨g,0,none⟩=some (.bool (b j))∧w.cell? ⟨g,1,none⟩=some (.int .i64 (p j 1))∧w.cell? ⟨g,2,none⟩=some (.int .i64 (p j 2))∧w.cell? ⟨g,3,none⟩=some (.int .i64 (p j 3))∧w.cell? ⟨g,4,none⟩=some (.int .i64 (p j 4))∧w.cell? ⟨g,5,none⟩=some (.int .i64 (p j 5)):=
 ⟨(blk_cell h 0).trans rfl,(blk_cell h 1).trans rfl,(blk_cell h 2).trans rfl,(blk_cell h 3).trans rfl,(blk_cell h 4).trans rfl,(blk_cell h 5).trans rfl⟩
theorem rep_spaces {A:Option Addr} {n c:Nat} {f:Nat→Int} {b:Nat→Bool} {p:Nat→Nat→Int} {e u:Int} {ro:Bool} {w:World} {g:Nat} {t:TypeId} (h:w.heap[g]?=some (.cells (repc A n c f b p e u ro) t (0,0))):w.rangeAt g 9 (spaces b p):=fun j v hj=>by
 have hlt:j<24:=by have:=(List.getElem?_eq_some_iff.1 hj).1;simpa using this
 refine (blk_cell h (9+j)).trans ?_
 have e1:(repc A n c f b p e u ro)=(([.slice A n c,.int .i64 (f 1),.int .i64 (f 2),.int .i64 (f 3),.int .i64 (f 4),.int .i64 (f 5),.int .i64 (f 6),.int .i64 (f 7),.int .i64 (f 8)]:List Value)++(spaces b p++([.int .u64 e,.int .u64 u,.bool ro]:List Value))).toArray:=rfl
 rw[e1,List.getElem?_toArray,List.getElem?_append_right (by simp),List.getElem?_append_left (by simp;omega)]
 rw[← hj]
 congr 1
 simp
def spT (p:Nat→Nat→Int) (j:Nat):List Int:=(([10,110,115]:List Int) ++ [32]++numLs (j:Int))++(([32,115,105,122,101]:List Int) ++ [32]++numLs (p j 1))++(([32,100,97,116,97]:List Int) ++ [32]++numLs (p j 2))++(([32,116,114,105,109,109,101,100]:List Int) ++ [32]++numLs (p j 3))++(([32,98,108,111,99,107,115]:List Int) ++ [32]++numLs (p j 4))++(([32,115,116,97,108,101]:List Int) ++ [32]++numLs (p j 5))
def sL (b:Nat→Bool) (p:Nat→Nat→Int) (k:Nat):List Int:=(List.range k).flatMap (fun j=>if b j=true then spT p j else [])
theorem sL_zero (b:Nat→Bool) (p:Nat→Nat→Int):sL b p 0=[]:=rfl
theorem sL_succ (b:Nat→Bool) (p:Nat→Nat→Int) (k:Nat):sL b p (k+1)=sL b p k++(if b k=true then spT p k else []):=by simp[sL,List.range_succ]
theorem spT_len (p:Nat→Nat→Int) (j:Nat):(spT p j).length≤1000:=by
 have:=numLs_len (j:Int);have:=numLs_len (p j 1);have:=numLs_len (p j 2);have:=numLs_len (p j 3);have:=numLs_len (p j 4);have:=numLs_len (p j 5)
 unfold spT
 simp only[List.length_append,List.length_cons,List.length_nil]
 omega
theorem sL_len (b:Nat→Bool) (p:Nat→Nat→Int) (k:Nat):(sL b p k).length≤k*1000:=by
 induction k with
 |zero=>simp[sL]
 |succ k ih=>
  have h2:(if b k=true then spT p k else []).length≤1000:=by
   split
   ·exact spT_len p k
   exact Nat.zero_le _
  rw[sL_succ,List.length_append,Nat.succ_mul]
  exact Nat.add_le_add ih h2
set_option maxRecDepth 100000 in
def htL (E:List Int) (f:Nat→Int) (b:Nat→Bool) (p:Nat→Nat→Int) (e u:Nat) (ro:Bool):List Int:=(((((((((hdL e u++roL ro)++([10,98,108,111,99,107,115] ++ [32]++numLs ((E.length:Nat):Int)))++([32,98,97,100] ++ [32]++numLs (f 1)))++([32,103,111,110,101] ++ [32]++numLs (f 2)))++([32,108,101,97,107,105,110,103] ++ [32]++numLs (f 3)))++([32,99,108,101,97,110] ++ [32]++numLs (f 4)))++([32,104,101,108,100] ++ [32]++numLs (f 5)))++([32,100,105,114,116,121] ++ [32]++numLs (f 6)))++([32,102,114,101,101] ++ [32]++numLs (f 7)))++([32,115,112,97,114,101] ++ [32]++numLs (f 8))++TEr++eL E++sL b p 4 ++ [10]
set_option maxHeartbeats 8000000 in
set_option maxRecDepth 100000 in
theorem htext_any (A:Option Addr) (c:Nat) (E:List Int) (f:Nat→Int) (b:Nat→Bool) (p:Nat→Nat→Int) (e u:Nat) (he:e<18446744073709551616) (hu:u<18446744073709551616) (ro:Bool) (w:World) (hf0:∀ k,-9223372036854775808≤f k∧f k<9223372036854775808) (hE0:E.length≤10000) (hA0:Kd.C (Kd.int .i64) w A E.length E) (hEr0:∀ k,-9223372036854775808≤E.getD k 0∧E.getD k 0<9223372036854775808) (hp0:∀ j k,-9223372036854775808≤p j k∧p j k<9223372036854775808) :
  Calls Try.prog 27 #[.agg (repc A E.length c f b p e u ro)] w fun e_ w'=>e_=.returned (.string (strOfNums (htL E f b p e u ro)))∧Below w.heap.size w w':=by
 have hmf:∀ (fn:Fn) (first cap:Array Value) (w:World),(Instr.makeFunc fn first cap).run Try.prog w=.ok (.func fn first cap) w:=fun _ _ _ _=>rfl
 have hde:=Lib.hid (fun w1=>health_digits.calls 80 (e:Int) (decS e) w1 (digits_eq e he 0))
 have hdu:=Lib.hid (fun w1=>health_digits.calls 80 (u:Int) (decS u) w1 (digits_eq u hu 0))
 have hdl:=decL_len e
 have hdm:=decL_len u
 obtain ⟨S1,hS1⟩:∃ S,S=strOfNums (decL e):=⟨_,rfl⟩
 obtain ⟨S2,hS2⟩:∃ S,S=strOfNums (T0++decL e):=⟨_,rfl⟩
 obtain ⟨S3,hS3⟩:∃ S,S=strOfNums (T0++decL e++T2):=⟨_,rfl⟩
 obtain ⟨S4,hS4⟩:∃ S,S=strOfNums (decL u):=⟨_,rfl⟩
 obtain ⟨S5,hS5⟩:∃ S,S=strOfNums (hdL e u):=⟨_,rfl⟩
 have a1:=Lib.hid (show ∀ W:World,(binOp .add 9 (.string { data:=#[101,112,111,99,104,32] }) (.string S1)).run Try.prog W=.ok (.string S2) W by rw[hS1,hS2];exact fun W=>str_add W T0 (decL e) (by unfold T0;simp;omega))
 have a2:=Lib.hid (show ∀ W:World,(binOp .add 9 (.string S2) (.string { data:=#[32,99,111,117,110,116,101,114,32] })).run Try.prog W=.ok (.string S3) W by rw[hS2,hS3];exact fun W=>str_add W (T0++decL e) T2 (by unfold T0 T2;simp;omega))
 have a3:=Lib.hid (show ∀ W:World,(binOp .add 9 (.string S3) (.string S4)).run Try.prog W=.ok (.string S5) W by rw[hS3,hS4,hS5];exact fun W=>str_add W (T0++decL e++T2) (decL u) (by unfold T0 T2;simp;omega))
 have a4:=Lib.hid (show ∀ W:World,(binOp .add 9 (.string { data:=#[] }) (.string S5)).run Try.prog W=.ok (.string S5) W by rw[hS5];exact fun W=>str_add W [] (hdL e u) (by have:=hdL_len e u;simp;omega))
 have hS6':=Lib.hid (show S5 ++ { data:=#[32,114,101,97,100,111,110,108,121] }=strOfNums (hdL e u++TRo) by rw[hS5,str_app];rfl)
 have hz5':=Lib.hid (show S5.size+9≤9223372036854775807 by rw[hS5,strOfNums_size];have:=hdL_len e u;omega)
 have hf:=Lib.hid hf0
 have hp:=Lib.hid hp0
 have hE:=Lib.hid hE0
 have hA:=Lib.hid hA0
 have hEr:=Lib.hid hEr0
 have hcl:=Lib.hid (show ∀ (S:ByteArray) (s:List Int) (n:Int) (L:List Int) (w1:World),strOfNums s=S→s.length≤1000→StrAt w.heap.size (w.heap.size+1) w1 L → -9223372036854775808≤n→n<9223372036854775808→L.length≤100000000→Calls Try.prog 62 #[.string S,.int .i64 n,.pointer (some ⟨w.heap.size+1,0,none⟩)] w1 (StrPost w.heap.size (w.heap.size+1) w1 (L++(s ++ [32]++numLs n))) from
  fun S s n L w1 hS hs hat h0 h1 hl=>by rw[← hS];exact htext1_any w.heap.size (w.heap.size+1) w1 L s n hat h0 h1 hl hs)
 clear hf0 hE0 hA0 hEr0 hp0
 rw[show decS e=S1 from hS1.symm] at hde
 rw[show decS u=S4 from hS4.symm] at hdu
 obtain ⟨CS,hCS⟩:∃ CS,CS=repc A E.length c f b p e u ro:=⟨_,rfl⟩
 have hcell:=Lib.hid (show ∀ (W:World) (g:Nat),W.heap[g]?=some (.cells CS 47 (0,0))→_ from fun W g h=>rep_cells (by rw[hCS] at h;exact h))
 obtain ⟨W1,hW1⟩:∃ W1,W1=(w.alloc (.cells CS 47 (0,0))).alloc (.cells #[.string { data:=#[] }] 9 (0,0)):=⟨_,rfl⟩
 have hrep:=Lib.hid (show W1.heap[w.heap.size]?=some (.cells CS 47 (0,0)) by rw[hW1];exact (heap_skip (w.alloc (.cells CS 47 (0,0))) _ w.heap.size (by simp)).trans (heap_alloc_last w _))
 have hstr:=Lib.hid (show W1.heap[w.heap.size+1]?=some (.cells #[.string { data:=#[] }] 9 (0,0)) by rw[hW1];have:=heap_alloc_last (w.alloc (.cells CS 47 (0,0))) (.cells #[.string { data:=#[] }] 9 (0,0));simpa using this)
 have hbel:=Lib.hid (show Below w.heap.size w W1 by rw[hW1];exact ((Below.refl w.heap.size w).alloc (Nat.le_refl _) _).alloc (by simp) _)
 have hCS':=Lib.hid hCS
 rw[← hCS]
 have hS5':=Lib.hid hS5
 clear hS1 hS2 hS3 hS4 hS5 he hu hdl hdm hCS
 go_enter Try.func27,Try.ntmps27
 go_wp2_with fail
 rw[← hW1]
 clear hW1
 refine start_ (n:=12) (S:=fun w'=>w'.heap[w.heap.size]?=some (.cells CS 47 (0,0))∧w'.heap[w.heap.size+1]?=some (.cells #[.string { data:=#[] }] 9 (0,0))) (ds:=[11]) #[false,false,false,false,false,false,false,false,false,false,false,false] (by kernel_rfl) rfl rfl (by exact ⟨hrep.out,hstr.out⟩) (fun hHeld=>?_)
 refine take_ (i:=0) (N:=some 10) (v:=?_) (a':=?_) #[true,false,false,false,false,false,false,false,false,false,false,false] rfl rfl (by kernel_rfl) (fun _ _ _ h=>h) (Or.inl ⟨by rfl,?_⟩) hHeld ?_ ?_
 rotate_left
 ·intro w' hS
  have hq:=(blk_cell hS.2 0).trans rfl
  go_simp;with_reducible rfl
 rotate_left
 ·simp only[Act.put,sZ0,sZ1,sZ2,i64_w,i32_w];rfl
 refine pure_ (i:=1) (N:=some 11) (v:=?_) (a':=?_) #[true,true,false,false,false,false,false,false,false,false,false,false] rfl rfl (by kernel_rfl) (fun _ _ _ h=>h) (Or.inl ⟨by rfl,?_⟩) ?_ ?_
 rotate_left
 ·intro w';go_simp;with_reducible rfl
 rotate_left
 ·simp only[Act.put,sZ0,sZ1,sZ2,i64_w,i32_w];rfl
 refine take_ (i:=2) (N:=some 12) (v:=?_) (a':=?_) #[true,true,true,false,false,false,false,false,false,false,false,false] rfl rfl (by kernel_rfl) (fun _ _ _ h=>h) (Or.inl ⟨by rfl,?_⟩) hHeld ?_ ?_
 rotate_left
 ·intro w' hS
  have hq:=(hcell.out w' _ hS.1).2.2.2.2.2.2.2.2.2.1
  go_simp;with_reducible rfl
 rotate_left
 ·simp only[Act.put,sZ0,sZ1,sZ2,i64_w,i32_w];rfl
 refine pure_ (i:=6) (N:=some 16) (v:=?_) (a':=?_) #[true,true,true,false,false,false,true,false,false,false,false,false] rfl rfl (by kernel_rfl) (fun _ _ _ h=>h) (Or.inl ⟨by rfl,?_⟩) ?_ ?_
 rotate_left
 ·intro w';go_simp;with_reducible rfl
 rotate_left
 ·simp only[Act.put,sZ0,sZ1,sZ2,i64_w,i32_w];rfl
 refine take_ (i:=7) (N:=some 17) (v:=?_) (a':=?_) #[true,true,true,false,false,false,true,true,false,false,false,false] rfl rfl (by kernel_rfl) (fun _ _ _ h=>h) (Or.inl ⟨by rfl,?_⟩) hHeld ?_ ?_
 rotate_left
 ·intro w' hS
  have hq:=(hcell.out w' _ hS.1).2.2.2.2.2.2.2.2.2.2.1
  go_simp;with_reducible rfl
 rotate_left
 ·simp only[Act.put,sZ0,sZ1,sZ2,i64_w,i32_w];rfl
 refine one_ (i:=3) (N:=some 13) #[true,true,true,true,false,false,true,true,false,false,false,false] rfl rfl (by kernel_rfl) (by decide) (fun K hK=>?_)
 refine goes_ Try.func63 (by kernel_rfl) rfl #[.int .u64 e] (by rfl) rfl rfl (by (try simp only[List.map_toArray,List.map_cons,List.map_nil]);first | done | rfl) ?_
 refine (hde.out _).mono ?_
 rintro e1 w1 ⟨rfl,hb⟩
 refine ⟨_,rfl,?_⟩
 refine hK.out _ _ ⟨heap_below hHeld.1 hb,heap_below hHeld.2 hb⟩ (fun hHeld=>?_)
 have b1:=Lib.hid (hbel.out.trans ((below_step (below_drew (Below.refl W1.heap.size W1)) hb).mono hbel.out.size))
 clear hb
 clear hK K;refine norm_ (a':=?_) ?_ ?_
 rotate_left
 ·show Act.put _ (some 13) _=_
  simp only[Act.put,sZ0,sZ1,sZ2,i64_w,i32_w];rfl
 refine pure_ (i:=4) (N:=some 14) (v:=?_) (a':=?_) #[true,true,true,true,true,false,true,true,false,false,false,false] rfl rfl (by kernel_rfl) (fun _ _ _ h=>h) (Or.inl ⟨by rfl,?_⟩) ?_ ?_
 rotate_left
 ·intro w'
  refine (exec_add w' 9 _ _ _ (by rfl) (.string { data:=#[101,112,111,99,104,32] }) (.string S1) _ (by rfl) (by rfl) (a1.out w')).trans ?_;with_reducible rfl
 rotate_left
 ·simp only[Act.put,sZ0,sZ1,sZ2,i64_w,i32_w];rfl
 refine pure_ (i:=5) (N:=some 15) (v:=?_) (a':=?_) #[true,true,true,true,true,true,true,true,false,false,false,false] rfl rfl (by kernel_rfl) (fun _ _ _ h=>h) (Or.inl ⟨by rfl,?_⟩) ?_ ?_
 rotate_left
 ·intro w'
  refine (exec_add w' 9 _ _ _ (by rfl) (.string S2) (.string { data:=#[32,99,111,117,110,116,101,114,32] }) _ (by rfl) (by rfl) (a2.out w')).trans ?_;with_reducible rfl
 rotate_left
 ·simp only[Act.put,sZ0,sZ1,sZ2,i64_w,i32_w];rfl
 refine one_ (i:=8) (N:=some 18) #[true,true,true,true,true,true,true,true,true,false,false,false] rfl rfl (by kernel_rfl) (by decide) (fun K hK=>?_)
 refine goes_ Try.func63 (by kernel_rfl) rfl #[.int .u64 u] (by rfl) rfl rfl (by (try simp only[List.map_toArray,List.map_cons,List.map_nil]);first | done | rfl) ?_
 refine (hdu.out _).mono ?_
 rintro e2 w2 ⟨rfl,hb⟩
 refine ⟨_,rfl,?_⟩
 refine hK.out _ _ ⟨heap_below hHeld.1 hb,heap_below hHeld.2 hb⟩ (fun hHeld=>?_)
 have b2:=Lib.hid (b1.out.trans (hb.mono b1.out.size))
 clear hb b1
 clear hK K;refine norm_ (a':=?_) ?_ ?_
 rotate_left
 ·show Act.put _ (some 18) _=_
  simp only[Act.put,sZ0,sZ1,sZ2,i64_w,i32_w];rfl
 refine pure_ (i:=9) (N:=some 19) (v:=?_) (a':=?_) #[true,true,true,true,true,true,true,true,true,true,false,false] rfl rfl (by kernel_rfl) (fun _ _ _ h=>h) (Or.inl ⟨by rfl,?_⟩) ?_ ?_
 rotate_left
 ·intro w'
  refine (exec_add w' 9 _ _ _ (by rfl) (.string S3) (.string S4) _ (by rfl) (by rfl) (a3.out w')).trans ?_;with_reducible rfl
 rotate_left
 ·simp only[Act.put,sZ0,sZ1,sZ2,i64_w,i32_w];rfl
 refine pure_ (i:=10) (N:=some 20) (v:=?_) (a':=?_) #[true,true,true,true,true,true,true,true,true,true,true,false] rfl rfl (by kernel_rfl) (fun _ _ _ h=>h) (Or.inl ⟨by rfl,?_⟩) ?_ ?_
 rotate_left
 ·intro w'
  refine (exec_add w' 9 _ _ _ (by rfl) (.string { data:=#[] }) (.string S5) _ (by rfl) (by rfl) (a4.out w')).trans ?_;with_reducible rfl
 rotate_left
 ·simp only[Act.put,sZ0,sZ1,sZ2,i64_w,i32_w];rfl
 refine last_ (i:=11) (N:=none) #[true,true,true,true,true,true,true,true,true,true,true,true] rfl rfl (by kernel_rfl) (by decide) (fun K hK=>?_)
 have hq:=(blk_cell hHeld.2 0).trans rfl
 have hf:=blk_frozen hHeld.2 0
 refine skip_ (w1:=w2.setCell ⟨w.heap.size+1,0,none⟩ (.string S5)) (by rfl) rfl (by go_simp;done) ?_
 have hrep3:=(heap_setCell_other w2 ⟨w.heap.size+1,0,none⟩ w.heap.size (.string S5) (Nat.ne_of_lt (Nat.lt_succ_self _))).trans hHeld.1
 have hstr3:=heap_setCell_same w2 (w.heap.size+1) 0 _ _ (.string S5) hHeld.2
 refine hK.out _ _ ?_
 have hb3:=Lib.hid (b2.out.setCell (p:=⟨w.heap.size+1,0,none⟩) (Nat.le_succ _) (.string S5))
 have hrep4:=Lib.hid hrep3
 have hstr4:=Lib.hid hstr3
 clear hq hf hHeld hrep3 hstr3 b2
 generalize w2.setCell ⟨w.heap.size+1,0,none⟩ (.string S5)=w3 at *
 clear hK K;refine done_ (by kernel_rfl) ?_
 have hst3:=Lib.hid (show StrAt w.heap.size (w.heap.size+1) w3 (hdL e u) from ⟨Nat.le_succ _,hb3.out.size,by rw[← hS5'.out];exact hstr4.out⟩)
 have hrep3:=Lib.hid hrep4.out
 have q35:=(hcell.out w3 _ hrep3.out).2.2.2.2.2.2.2.2.2.2.2
 have hl0:=Lib.hid (hdL_len e u)
 clear hrep4 a1 a2 a3 a4 hde hdu hmf hbel hrep hstr
 obtain ⟨w4,hw4⟩:∃ w4:World,w4=(if ro=true then w3.setCell ⟨w.heap.size+1,0,none⟩ (.string (S5 ++ { data:=#[32,114,101,97,100,111,110,108,121] })) else w3):=⟨_,rfl⟩
 have hst4:Hid (StrAt w.heap.size (w.heap.size+1) w4 (hdL e u++roL ro)):=Lib.hid (by
  rw[hw4]
  cases ro
  ·rw[if_neg (by simp),show hdL e u++roL false=hdL e u from List.append_nil _];exact hst3.out
  rw[if_pos rfl]
  refine ⟨Nat.le_succ _,Nat.le_trans hb3.out.size (by simp[World.setCell]),?_⟩
  have:=heap_setCell_same w3 (w.heap.size+1) 0 _ _ (.string (S5 ++ { data:=#[32,114,101,97,100,111,110,108,121] })) hst3.out.2.2
  rw[hS6'.out] at this ⊢
  exact this)
 have hrep4:Hid (w4.heap[w.heap.size]?=some (.cells CS 47 (0,0))):=Lib.hid (by
  rw[hw4]
  cases ro
  ·rw[if_neg (by simp)];exact hrep3.out
  rw[if_pos rfl]
  exact (heap_setCell_other w3 ⟨w.heap.size+1,0,none⟩ w.heap.size (.string (S5 ++ { data:=#[32,114,101,97,100,111,110,108,121] })) (Nat.ne_of_lt (Nat.lt_succ_self _))).trans hrep3.out)
 have hb4:Hid (Below w.heap.size w w4):=Lib.hid (by
  rw[hw4]
  cases ro
  ·rw[if_neg (by simp)];exact hb3.out
  rw[if_pos rfl]
  exact hb3.out.setCell (p:=⟨w.heap.size+1,0,none⟩) (Nat.le_succ _) _)
 have hlen4:=Lib.hid (show (hdL e u++roL ro).length≤100 by have:=hl0.out;cases ro <;> simp[roL,TRo] <;> omega)
 have q0:w3.cell? ⟨w.heap.size+1,0,none⟩=some (.string S5):=by rw[hS5'.out];exact (blk_cell hst3.out.2.2 0).trans rfl
 have f0:=blk_frozen hst3.out.2.2 0
 have hz5:=hz5'.out
 clear hstr4
 go_upto_region 4 with fail
 go_upto_if 22 with fail
 go_cut [24] (fun v w'=>w'=w4)
 case first=>
  cases ro
  all_goals
   simp only[if_true,if_false,Bool.false_eq_true] at hw4
   go_wp2_with fail
   go_meet
   exact hw4.symm
 case rest=>
  have q:=(hcell.out w4 _ hrep4.out).1
  obtain ⟨RL,hRL⟩:∃ RL,RL=roL ro:=⟨_,rfl⟩
  rw[← hRL] at hst4 hlen4
  have hRL':=Lib.hid hRL
  clear hRL hw4 q0 f0 q35 hz5 hst3 hrep3 hb3
  obtain rfl:=hcut.symm
  go_wp2_with fail
  clear q
  refine (hcl.out _ [10,98,108,111,99,107,115] ((E.length:Nat):Int) _ w4 (by rfl) (by decide) hst4.out (by have:=hE.out;omega) (by have:=hE.out;omega) (by have:=hlen4.out;omega)).mono ?_
  rintro _ w5 ⟨rfl,hat,hbl,hbut⟩
  have hst5:=Lib.hid hat
  have hlen5:=Lib.hid (htext_len hlen4.out (s:=[10,98,108,111,99,107,115]) (n:=((E.length:Nat):Int)) (by decide))
  have hrep5:=Lib.hid ((hbut.2 w.heap.size (lt_of_heap hrep4.out) (Nat.ne_of_lt (Nat.lt_succ_self _))).trans hrep4.out)
  have hb5:=Lib.hid (hb4.out.trans hbl)
  have q:=(hcell.out w5 _ hrep5.out).2.1
  clear hat hbl hbut hst4 hlen4 hrep4 hb4
  go_wp2_with fail
  clear q
  refine (hcl.out _ [32,98,97,100] (f 1) _ w5 (by rfl) (by decide) hst5.out (hf.out 1).1 (hf.out 1).2 (by have:=hlen5.out;omega)).mono ?_
  rintro _ w6 ⟨rfl,hat,hbl,hbut⟩
  have hst6:=Lib.hid hat
  have hlen6:=Lib.hid (htext_len hlen5.out (s:=[32,98,97,100]) (n:=(f 1)) (by decide))
  have hrep6:=Lib.hid ((hbut.2 w.heap.size (lt_of_heap hrep5.out) (Nat.ne_of_lt (Nat.lt_succ_self _))).trans hrep5.out)
  have hb6:=Lib.hid (hb5.out.trans hbl)
  have q:=(hcell.out w6 _ hrep6.out).2.2.1
  clear hat hbl hbut hst5 hlen5 hrep5 hb5
  go_wp2_with fail
  clear q
  refine (hcl.out _ [32,103,111,110,101] (f 2) _ w6 (by rfl) (by decide) hst6.out (hf.out 2).1 (hf.out 2).2 (by have:=hlen6.out;omega)).mono ?_
  rintro _ w7 ⟨rfl,hat,hbl,hbut⟩
  have hst7:=Lib.hid hat
  have hlen7:=Lib.hid (htext_len hlen6.out (s:=[32,103,111,110,101]) (n:=(f 2)) (by decide))
  have hrep7:=Lib.hid ((hbut.2 w.heap.size (lt_of_heap hrep6.out) (Nat.ne_of_lt (Nat.lt_succ_self _))).trans hrep6.out)
  have hb7:=Lib.hid (hb6.out.trans hbl)
  have q:=(hcell.out w7 _ hrep7.out).2.2.2.1
  clear hat hbl hbut hst6 hlen6 hrep6 hb6
  go_wp2_with fail
  clear q
  refine (hcl.out _ [32,108,101,97,107,105,110,103] (f 3) _ w7 (by rfl) (by decide) hst7.out (hf.out 3).1 (hf.out 3).2 (by have:=hlen7.out;omega)).mono ?_
  rintro _ w8 ⟨rfl,hat,hbl,hbut⟩
  have hst8:=Lib.hid hat
  have hlen8:=Lib.hid (htext_len hlen7.out (s:=[32,108,101,97,107,105,110,103]) (n:=(f 3)) (by decide))
  have hrep8:=Lib.hid ((hbut.2 w.heap.size (lt_of_heap hrep7.out) (Nat.ne_of_lt (Nat.lt_succ_self _))).trans hrep7.out)
  have hb8:=Lib.hid (hb7.out.trans hbl)
  have q:=(hcell.out w8 _ hrep8.out).2.2.2.2.1
  clear hat hbl hbut hst7 hlen7 hrep7 hb7
  go_wp2_with fail
  clear q
  refine (hcl.out _ [32,99,108,101,97,110] (f 4) _ w8 (by rfl) (by decide) hst8.out (hf.out 4).1 (hf.out 4).2 (by have:=hlen8.out;omega)).mono ?_
  rintro _ w9 ⟨rfl,hat,hbl,hbut⟩
  have hst9:=Lib.hid hat
  have hlen9:=Lib.hid (htext_len hlen8.out (s:=[32,99,108,101,97,110]) (n:=(f 4)) (by decide))
  have hrep9:=Lib.hid ((hbut.2 w.heap.size (lt_of_heap hrep8.out) (Nat.ne_of_lt (Nat.lt_succ_self _))).trans hrep8.out)
  have hb9:=Lib.hid (hb8.out.trans hbl)
  have q:=(hcell.out w9 _ hrep9.out).2.2.2.2.2.1
  clear hat hbl hbut hst8 hlen8 hrep8 hb8
  go_wp2_with fail
  clear q
  refine (hcl.out _ [32,104,101,108,100] (f 5) _ w9 (by rfl) (by decide) hst9.out (hf.out 5).1 (hf.out 5).2 (by have:=hlen9.out;omega)).mono ?_
  rintro _ w10 ⟨rfl,hat,hbl,hbut⟩
  have hst10:=Lib.hid hat
  have hlen10:=Lib.hid (htext_len hlen9.out (s:=[32,104,101,108,100]) (n:=(f 5)) (by decide))
  have hrep10:=Lib.hid ((hbut.2 w.heap.size (lt_of_heap hrep9.out) (Nat.ne_of_lt (Nat.lt_succ_self _))).trans hrep9.out)
  have hb10:=Lib.hid (hb9.out.trans hbl)
  have q:=(hcell.out w10 _ hrep10.out).2.2.2.2.2.2.1
  clear hat hbl hbut hst9 hlen9 hrep9 hb9
  go_wp2_with fail
  clear q
  refine (hcl.out _ [32,100,105,114,116,121] (f 6) _ w10 (by rfl) (by decide) hst10.out (hf.out 6).1 (hf.out 6).2 (by have:=hlen10.out;omega)).mono ?_
  rintro _ w11 ⟨rfl,hat,hbl,hbut⟩
  have hst11:=Lib.hid hat
  have hlen11:=Lib.hid (htext_len hlen10.out (s:=[32,100,105,114,116,121]) (n:=(f 6)) (by decide))
  have hrep11:=Lib.hid ((hbut.2 w.heap.size (lt_of_heap hrep10.out) (Nat.ne_of_lt (Nat.lt_succ_self _))).trans hrep10.out)
  have hb11:=Lib.hid (hb10.out.trans hbl)
  have q:=(hcell.out w11 _ hrep11.out).2.2.2.2.2.2.2.1
  clear hat hbl hbut hst10 hlen10 hrep10 hb10
  go_wp2_with fail
  clear q
  refine (hcl.out _ [32,102,114,101,101] (f 7) _ w11 (by rfl) (by decide) hst11.out (hf.out 7).1 (hf.out 7).2 (by have:=hlen11.out;omega)).mono ?_
  rintro _ w12 ⟨rfl,hat,hbl,hbut⟩
  have hst12:=Lib.hid hat
  have hlen12:=Lib.hid (htext_len hlen11.out (s:=[32,102,114,101,101]) (n:=(f 7)) (by decide))
  have hrep12:=Lib.hid ((hbut.2 w.heap.size (lt_of_heap hrep11.out) (Nat.ne_of_lt (Nat.lt_succ_self _))).trans hrep11.out)
  have hb12:=Lib.hid (hb11.out.trans hbl)
  have q:=(hcell.out w12 _ hrep12.out).2.2.2.2.2.2.2.2.1
  clear hat hbl hbut hst11 hlen11 hrep11 hb11
  go_wp2_with fail
  clear q
  refine (hcl.out _ [32,115,112,97,114,101] (f 8) _ w12 (by rfl) (by decide) hst12.out (hf.out 8).1 (hf.out 8).2 (by have:=hlen12.out;omega)).mono ?_
  rintro _ w13 ⟨rfl,hat,hbl,hbut⟩
  have hst13:=Lib.hid hat
  have hlen13:=Lib.hid (htext_len hlen12.out (s:=[32,115,112,97,114,101]) (n:=(f 8)) (by decide))
  have hrep13:=Lib.hid ((hbut.2 w.heap.size (lt_of_heap hrep12.out) (Nat.ne_of_lt (Nat.lt_succ_self _))).trans hrep12.out)
  have hb13:=Lib.hid (hb12.out.trans hbl)
  clear hat hbl hbut hst12 hlen12 hrep12 hb12
  obtain ⟨L9,hL9⟩:∃ L9,L9=(((((((((hdL e u++RL)++([10,98,108,111,99,107,115] ++ [32]++numLs ((E.length:Nat):Int)))++([32,98,97,100] ++ [32]++numLs (f 1)))++([32,103,111,110,101] ++ [32]++numLs (f 2)))++([32,108,101,97,107,105,110,103] ++ [32]++numLs (f 3)))++([32,99,108,101,97,110] ++ [32]++numLs (f 4)))++([32,104,101,108,100] ++ [32]++numLs (f 5)))++([32,100,105,114,116,121] ++ [32]++numLs (f 6)))++([32,102,114,101,101] ++ [32]++numLs (f 7)))++([32,115,112,97,114,101] ++ [32]++numLs (f 8)):=⟨_,rfl⟩
  rw[← hL9] at hst13 hlen13
  obtain ⟨S9,hS9⟩:∃ S9,S9=strOfNums L9:=⟨_,rfl⟩
  have q0:w13.cell? ⟨w.heap.size+1,0,none⟩=some (.string S9):=by rw[hS9];exact (blk_cell hst13.out.2.2 0).trans rfl
  have f0:=blk_frozen hst13.out.2.2 0
  have hz9:S9.size+7≤9223372036854775807:=by rw[hS9,strOfNums_size];have:=hlen13.out;omega
  obtain ⟨w14,hw14⟩:∃ w14:World,w14=w13.setCell ⟨w.heap.size+1,0,none⟩ (.string (S9 ++ { data:=#[10,101,114,97,115,101,115] })):=⟨_,rfl⟩
  have hst14:Hid (StrAt w.heap.size (w.heap.size+1) w14 (L9++TEr)):=Lib.hid (by
   rw[hw14]
   refine ⟨Nat.le_succ _,Nat.le_trans hb13.out.size (by simp[World.setCell]),?_⟩
   have:=heap_setCell_same w13 (w.heap.size+1) 0 _ _ (.string (S9 ++ { data:=#[10,101,114,97,115,101,115] })) hst13.out.2.2
   have e:S9 ++ { data:=#[10,101,114,97,115,101,115] }=strOfNums (L9++TEr):=by rw[hS9,str_app];rfl
   rw[e] at this ⊢
   exact this)
  have hrep14:Hid (w14.heap[w.heap.size]?=some (.cells CS 47 (0,0))):=Lib.hid (by
   rw[hw14]
   exact (heap_setCell_other w13 ⟨w.heap.size+1,0,none⟩ w.heap.size _ (Nat.ne_of_lt (Nat.lt_succ_self _))).trans hrep13.out)
  have hb14:Hid (Below w.heap.size w w14):=Lib.hid (by
   rw[hw14]
   exact hb13.out.setCell (p:=⟨w.heap.size+1,0,none⟩) (Nat.le_succ _) _)
  have hlen14:=Lib.hid (show (L9++TEr).length≤11000 by have:=hlen13.out;simp[TEr];omega)
  have q:=(hcell.out w14 _ hrep14.out).1
  rw[hw14] at q
  have hL9':=Lib.hid hL9
  clear hL9 hS9
  have q13:=(hcell.out w13 _ hrep13.out).1
  clear hst13 hlen13 hrep13 hb13
  go_wp2_with fail
  (try rw[← hw14])
  clear q q0 f0 hz9 hw14 q13
  go_loopw [67] (fun i wr=>∃ k:Nat,k≤E.length∧i=.int .i64 k∧StrAt w.heap.size (w.heap.size+1) wr (L9++TEr++eL (E.take k))∧wr.heap[w.heap.size]?=some (.cells CS 47 (0,0))∧Below w.heap.size w wr) (fun i _=>E.length - (intOf i).toNat)
  case atStart=>exact ⟨0,Nat.zero_le _,rfl,by rw[List.take_zero,eL,List.flatMap_nil,List.append_nil];exact hst14.out,hrep14.out,hb14.out⟩
  case round=>
   obtain ⟨k,hk,rfl,hst,hrep,hb⟩:=hrel
   have hlk:=Lib.hid (eL_len (E.take k))
   by_cases hlt:k<E.length
   ·have hes:=Lib.hid (eL_succ E k hlt)
    obtain ⟨ba,oa,rfl,hr⟩:=C_range (Kd.C_below hA.out hb) (Nat.lt_of_le_of_lt (Nat.zero_le _) hlt)
    have hcx:=C_cell hr k hlt
    obtain ⟨x,hx⟩:∃ x,x=E.getD k 0:=⟨_,rfl⟩
    rw[← hx] at hcx hes
    have hxr:=Lib.hid (hEr.out k)
    rw[← hx] at hxr
    have hst':=Lib.hid hst
    have hrep':=Lib.hid hrep
    have hb':=Lib.hid hb
    have hE':=hE.out
    have q1:(k:Int)<(E.length:Int):=by omega
    have q2:(0:Int)≤(k:Int):=by omega
    have kw:IntKind.i64.wrap ((k:Int)+1)=(k:Int)+1:=by rw[IntKind.wrap_i64];omega
    have hlen':=Lib.hid (show (L9++TEr++eL (E.take k)).length≤100000000 by have h1:=hlen14.out;have h2:=hlk.out;rw[List.length_take] at h2;rw[List.length_append];omega)
    have hk1:=Lib.hid (show k+1≤E.length from hlt)
    clear hst hrep hb hlt hk hr hx hE' hst14 hrep14 hb14
    go_wp2_with (refine (hcl.out _ [] x _ wr (by rfl) (by decide) hst'.out hxr.out.1 hxr.out.2 hlen'.out).mono ?_;rintro _ wn ⟨rfl,hat,hbl,hbut⟩;have hst2:=Lib.hid hat;have hrep2:=Lib.hid ((hbut.2 w.heap.size (lt_of_heap hrep'.out) (Nat.ne_of_lt (Nat.lt_succ_self _))).trans hrep'.out);have hb2:=Lib.hid (hb'.out.trans hbl);clear hat hbl hbut)
    exact ⟨⟨k+1,hk1.out,by push_cast;rfl,by rw[hes.out,← List.append_assoc];exact hst2.out,hrep2.out,hb2.out⟩,by have:=hk1.out;simp only[intOf];omega⟩
   obtain rfl:k=E.length:=by omega
   rw[List.take_length] at hst hlk
   obtain ⟨LX,hLX⟩:∃ L,L=L9++TEr++eL E:=⟨_,rfl⟩
   have hst20:=Lib.hid hst
   have hlx:=Lib.hid (show (L9++TEr++eL E).length≤1000000 by have h1:=hlen14.out;have h2:=hlk.out;have:=hE.out;rw[List.length_append];omega)
   rw[← hLX] at hst20 hlx
   have hLX':=Lib.hid hLX
   have hb20:=Lib.hid hb
   have hrg:=Lib.hid (rep_spaces (by rw[hCS'.out] at hrep;exact hrep))
   have hszL:=Lib.hid (show (Try.prog.info? 44).map (·.size)=some (spaces b p).length from szSp4)
   have hixs:=Lib.hid (fun (j:Nat) (hj:j<4) (W:World)=>show (Instr.index 44 (.agg (spaces b p).toArray) (.int .i64 (j:Int))).run Try.prog W=.ok (.agg (spacl b p j).toArray) W from by
    rw[run_index_row (P:=Try.prog) 44 43 4 6 _ j Try.underlying44 szSp _ Try.underlying43 rfl hj W,spaces_extract b p j hj])
   obtain ⟨Ls,hLs⟩:∃ L,L=spaces b p:=⟨_,rfl⟩
   rw[← hLs] at hrg hszL hixs
   obtain ⟨hzS,-⟩:=zero_of_info (P:=Try.prog) infoSp
   obtain ⟨ZS,hZS⟩:∃ Z:Array Value,Z=zSp:=⟨_,rfl⟩
   rw[← hZS] at hzS
   have hZS':=Lib.hid hZS
   clear hlt hst hrep hb hLX hLs hZS hst14 hrep14 hb14 hlen14 hlk hA hEr hk hE
   go_wp2_with (with_reducible refine wpList_load_mid rfl 44 _ rfl w.heap.size 9 rfl Ls _ hrg.out Try.underlying44 rfl hszL.out ?_)
   go_loopw [7,8,77] (fun _ _ i wr=>∃ j:Nat,j≤4∧i=.int .i64 j∧StrAt w.heap.size (w.heap.size+1) wr (LX++sL b p j)∧Below w.heap.size w wr) (fun _ _ i _=>4 - (intOf i).toNat)
   case atStart=>exact ⟨0,by omega,rfl,by rw[sL_zero,List.append_nil];exact hst20.out,hb20.out⟩
   case round=>
    obtain ⟨j,hj,rfl,hst,hb⟩:=hrel
    have hst':=Lib.hid hst
    have hb':=Lib.hid hb
    have hls:=Lib.hid (sL_len b p j)
    clear hst hb hst20 hb20 hrg
    by_cases hlt:j<4
    ·have q1:(j:Int)<4:=by omega
     have q2:(0:Int)≤(j:Int):=by omega
     have kw:IntKind.i64.wrap ((j:Int)+1)=(j:Int)+1:=by rw[IntKind.wrap_i64];omega
     have hj1:=Lib.hid hlt
     have hx:=hixs.out j hlt wr
     obtain ⟨CX,hCX⟩:∃ CX,CX=(spacl b p j).toArray:=⟨_,rfl⟩
     rw[← hCX] at hx
     have hs1:=Lib.hid (show (Try.prog.info? 43).map (·.size)=some CX.size by rw[hCX];exact szSp)
     have ho1:=Lib.hid (show CX.all (·.oneCell')=true by rw[hCX];exact spacl_one _ _ _)
     have hz1:=Lib.hid (show ZS.size=CX.size by rw[hCX,hZS'.out];rfl)
     have hcq:=Lib.hid (fun (W:World) (g:Nat) (h:W.heap[g]?=some (.cells CX 43 (0,0)))=>spacl_cells (by rw[hCX] at h;exact h))
     have hsuc:=Lib.hid (sL_succ b p j)
     have hgn:=Lib.hid (show wr.heap.size≠w.heap.size+1 from Nat.ne_of_gt hst'.out.lt)
     have z20:=Lib.hid (show (LX++sL b p j).length≤1100000 by have h1:=hlx.out;have h2:=hls.out;rw[List.length_append];omega)
     clear hCX hlt hj
     obtain ⟨bj,hbj⟩:∃ x,x=b j:=⟨_,rfl⟩
     rw[← hbj] at hcq hsuc
     clear hbj
     cases bj with
     |false=>
      go_wp2_with (with_reducible refine wpList_store_row rfl 43 _ _ rfl wr.heap.size CX rfl rfl 43 ZS (heap_alloc_last _ _) hs1.out hz1.out ho1.out ?_;have b12:=Lib.hid (below_setRow ((Below.refl wr.heap.size wr).alloc (Nat.le_refl _) (.cells ZS 43 (0,0))) (Nat.le_refl _) CX);have hk7:=Lib.hid (setRow_heap (wr.alloc (.cells ZS 43 (0,0))) wr.heap.size ZS CX 43 (0,0) (heap_alloc_last _ _));generalize (wr.alloc (.cells ZS 43 (0,0))).setRow wr.heap.size CX=w20 at *;have q20:=(hcq.out w20 _ hk7.out).1)
      exact ⟨⟨j+1,hj1.out,by push_cast;rfl,by rw[hsuc.out,if_neg (by decide),List.append_nil];exact hst'.out.keep b12.out,below_step hb'.out b12.out⟩,by have:=hj1.out;simp only[intOf];omega⟩
     |true=>
      go_wp2_with (with_reducible refine wpList_store_row rfl 43 _ _ rfl wr.heap.size CX rfl rfl 43 ZS (heap_alloc_last _ _) hs1.out hz1.out ho1.out ?_;have b12:=Lib.hid (below_setRow ((Below.refl wr.heap.size wr).alloc (Nat.le_refl _) (.cells ZS 43 (0,0))) (Nat.le_refl _) CX);have k20:=Lib.hid (setRow_heap (wr.alloc (.cells ZS 43 (0,0))) wr.heap.size ZS CX 43 (0,0) (heap_alloc_last _ _));generalize (wr.alloc (.cells ZS 43 (0,0))).setRow wr.heap.size CX=w20 at *;have q20:=(hcq.out w20 _ k20.out).1;have t20:=Lib.hid (hst'.out.keep b12.out);have y20:=Lib.hid (below_step hb'.out b12.out))
      clear q20 b12 hst'
      refine (hcl.out _ [10,110,115] (j:Int) _ w20 (by rfl) (by decide) t20.out (by have:=hj1.out;omega) (by have:=hj1.out;omega) (by have:=z20.out;omega)).mono ?_
      rintro _ w21 ⟨rfl,hat,hbl,hbut⟩
      have t21:=Lib.hid hat
      have z21:=Lib.hid (htext_len z20.out (s:=[10,110,115]) (n:=(j:Int)) (by decide))
      have y21:=Lib.hid (y20.out.trans hbl)
      have k21:=Lib.hid ((hbut.2 wr.heap.size (lt_of_heap k20.out) hgn.out).trans k20.out)
      have q:=(hcq.out w21 _ k21.out).2.1
      clear hat hbl hbut t20 z20 y20 k20
      go_wp2_with fail
      clear q
      refine (hcl.out _ [32,115,105,122,101] (p j 1) _ w21 (by rfl) (by decide) t21.out (hp.out j 1).1 (hp.out j 1).2 (by have:=z21.out;omega)).mono ?_
      rintro _ w22 ⟨rfl,hat,hbl,hbut⟩
      have t22:=Lib.hid hat
      have z22:=Lib.hid (htext_len z21.out (s:=[32,115,105,122,101]) (n:=(p j 1)) (by decide))
      have y22:=Lib.hid (y21.out.trans hbl)
      have k22:=Lib.hid ((hbut.2 wr.heap.size (lt_of_heap k21.out) hgn.out).trans k21.out)
      have q:=(hcq.out w22 _ k22.out).2.2.1
      clear hat hbl hbut t21 z21 y21 k21
      go_wp2_with fail
      clear q
      refine (hcl.out _ [32,100,97,116,97] (p j 2) _ w22 (by rfl) (by decide) t22.out (hp.out j 2).1 (hp.out j 2).2 (by have:=z22.out;omega)).mono ?_
      rintro _ w23 ⟨rfl,hat,hbl,hbut⟩
      have t23:=Lib.hid hat
      have z23:=Lib.hid (htext_len z22.out (s:=[32,100,97,116,97]) (n:=(p j 2)) (by decide))
      have y23:=Lib.hid (y22.out.trans hbl)
      have k23:=Lib.hid ((hbut.2 wr.heap.size (lt_of_heap k22.out) hgn.out).trans k22.out)
      have q:=(hcq.out w23 _ k23.out).2.2.2.1
      clear hat hbl hbut t22 z22 y22 k22
      go_wp2_with fail
      clear q
      refine (hcl.out _ [32,116,114,105,109,109,101,100] (p j 3) _ w23 (by rfl) (by decide) t23.out (hp.out j 3).1 (hp.out j 3).2 (by have:=z23.out;omega)).mono ?_
      rintro _ w24 ⟨rfl,hat,hbl,hbut⟩
      have t24:=Lib.hid hat
      have z24:=Lib.hid (htext_len z23.out (s:=[32,116,114,105,109,109,101,100]) (n:=(p j 3)) (by decide))
      have y24:=Lib.hid (y23.out.trans hbl)
      have k24:=Lib.hid ((hbut.2 wr.heap.size (lt_of_heap k23.out) hgn.out).trans k23.out)
      have q:=(hcq.out w24 _ k24.out).2.2.2.2.1
      clear hat hbl hbut t23 z23 y23 k23
      go_wp2_with fail
      clear q
      refine (hcl.out _ [32,98,108,111,99,107,115] (p j 4) _ w24 (by rfl) (by decide) t24.out (hp.out j 4).1 (hp.out j 4).2 (by have:=z24.out;omega)).mono ?_
      rintro _ w25 ⟨rfl,hat,hbl,hbut⟩
      have t25:=Lib.hid hat
      have z25:=Lib.hid (htext_len z24.out (s:=[32,98,108,111,99,107,115]) (n:=(p j 4)) (by decide))
      have y25:=Lib.hid (y24.out.trans hbl)
      have k25:=Lib.hid ((hbut.2 wr.heap.size (lt_of_heap k24.out) hgn.out).trans k24.out)
      have q:=(hcq.out w25 _ k25.out).2.2.2.2.2
      clear hat hbl hbut t24 z24 y24 k24
      go_wp2_with fail
      clear q
      refine (hcl.out _ [32,115,116,97,108,101] (p j 5) _ w25 (by rfl) (by decide) t25.out (hp.out j 5).1 (hp.out j 5).2 (by have:=z25.out;omega)).mono ?_
      rintro _ w26 ⟨rfl,hat,hbl,hbut⟩
      have t26:=Lib.hid hat
      have z26:=Lib.hid (htext_len z25.out (s:=[32,115,116,97,108,101]) (n:=(p j 5)) (by decide))
      have y26:=Lib.hid (y25.out.trans hbl)
      have k26:=Lib.hid ((hbut.2 wr.heap.size (lt_of_heap k25.out) hgn.out).trans k25.out)
      clear hat hbl hbut t25 z25 y25 k25
      go_wp2_with fail
      exact ⟨⟨j+1,hj1.out,by push_cast;rfl,by rw[hsuc.out,if_pos (by trivial),← List.append_assoc];simp only[spT,← List.append_assoc] at t26 ⊢;exact t26.out,y26.out⟩,by have:=hj1.out;simp only[intOf];omega⟩
    obtain rfl:j=4:=by omega
    obtain ⟨LY,hLY⟩:∃ L,L=LX++sL b p 4:=⟨_,rfl⟩
    have hly:=Lib.hid (show (LX++sL b p 4).length≤1100000 by have h1:=hlx.out;have h2:=hls.out;rw[List.length_append];omega)
    rw[← hLY] at hst' hly
    obtain ⟨SY,hSY⟩:∃ S,S=strOfNums LY:=⟨_,rfl⟩
    have q0:wr.cell? ⟨w.heap.size+1,0,none⟩=some (.string SY):=by rw[hSY];exact (blk_cell hst'.out.2.2 0).trans rfl
    have hz9:SY.size+1≤9223372036854775807:=by rw[hSY,strOfNums_size];have:=hly.out;omega
    have hfin:=Lib.hid (show SY ++ { data:=#[10] }=strOfNums (htL E f b p e u ro) by
     rw[hSY,hLY,hLX'.out,hL9'.out,hRL'.out]
     exact (str_app _ [10]).symm)
    clear hLY hSY hlt hj
    go_wp2_with fail
    go_ret
    exact ⟨by rw[hfin.out];rfl,hb'.out⟩
end Go.Proofs.Ytiogdomjmjiahaa.Own
