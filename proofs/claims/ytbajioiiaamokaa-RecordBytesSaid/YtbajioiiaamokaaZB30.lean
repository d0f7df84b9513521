/- RcA, pruned (slim.py). -/
import Derived.Test.YtbajioiiaamokaaZB28
import Derived.Test.YtbajioiiaamokaaZB29
namespace Go.Proofs.Ytbajioiiaamokaa.Own
open Go.RowKit Go.Proofs.Ytbajioiiaamokaa.Arr Go.Proofs.Ytbajioiiaamokaa.QB Go.Proofs.YtbajioiiaamokaaW.PrintWords Go.Proofs.YtbajioiiaamokaaW.PrintLast Go.Proofs.YtbajioiiaamokaaW.PrintMore
set_option linter.unusedVariables false
set_option linter.unusedSimpArgs false
abbrev slcl (x:SlT) (A:Option Addr) (c:Nat):List Value:=[.bool x.used,.int .i64 x.size,.int .u64 x.epoch,.int .u64 x.count,.slice A x.wrap.length c]
structure RcT where
 gen:Int
 epoch:Int
 salt:List Int
 bad:Int
 check:List Int
 s:Nat→SlT
def rcZero:RcT:=⟨0,0,[],0,[],fun _=>slZero⟩
abbrev rch (r:RcT) (A:Nat→Option Addr) (c:Nat→Nat):List Value:=[.int .u64 r.gen,.int .u64 r.epoch,.slice (A 0) r.salt.length (c 0),.int .u64 r.bad,.slice (A 1) r.check.length (c 1)]
abbrev rcs (s:Nat→SlT) (A:Nat→Option Addr) (c:Nat→Nat):List Value:=slcl (s 0) (A 2) (c 2)++(slcl (s 1) (A 3) (c 3)++(slcl (s 2) (A 4) (c 4)++slcl (s 3) (A 5) (c 5)))
abbrev rcl (r:RcT) (A:Nat→Option Addr) (c:Nat→Nat):List Value:=rch r A c++rcs r.s A c
def upd {α:Type} (f:Nat→α) (k:Nat) (x:α):Nat→α:=fun j=>if j=k then x else f j
theorem upd_same {α:Type} (f:Nat→α) (k:Nat) (x:α):upd f k x k=x:=by simp[upd]
theorem upd_other {α:Type} (f:Nat→α) (k j:Nat) (x:α) (h:j≠k):upd f k x j=f j:=by simp[upd,h]
theorem four_cases {P:Nat→Prop} (h0:P 0) (h1:P 1) (h2:P 2) (h3:P 3) (k:Nat) (hk:k<4):P k:=by
 have:k=0∨k=1∨k=2∨k=3:=by omega
 rcases this with rfl | rfl | rfl | rfl <;> assumption
theorem rcs_extract (s:Nat→SlT) (A:Nat→Option Addr) (c:Nat→Nat) (k:Nat) (hk:k<4):(rcs s A c).toArray.extract (k*5) (k*5+5)=(slcl (s k) (A (k+2)) (c (k+2))).toArray:=
 four_cases (P:=fun k=>(rcs s A c).toArray.extract (k*5) (k*5+5)=(slcl (s k) (A (k+2)) (c (k+2))).toArray) rfl rfl rfl rfl k hk
theorem rcl_slot (r:RcT) (A:Nat→Option Addr) (c:Nat→Nat) (k:Nat) (hk:k<4):((rcl r A c).drop (5+k*5)).take 5=slcl (r.s k) (A (k+2)) (c (k+2)):=
 four_cases (P:=fun k=>((rcl r A c).drop (5+k*5)).take 5=slcl (r.s k) (A (k+2)) (c (k+2))) rfl rfl rfl rfl k hk
theorem rcl_upd (r:RcT) (A:Nat→Option Addr) (c:Nat→Nat) (x:SlT) (a:Option Addr) (n:Nat) (k:Nat) (hk:k<4) :
  (rcl r A c).take (5+k*5)++slcl x a n++(rcl r A c).drop (5+k*5+5)=rcl { r with s:=upd r.s k x } (upd A (k+2) a) (upd c (k+2) n):=
 four_cases (P:=fun k=>(rcl r A c).take (5+k*5)++slcl x a n++(rcl r A c).drop (5+k*5+5)=rcl { r with s:=upd r.s k x } (upd A (k+2) a) (upd c (k+2) n)) rfl rfl rfl rfl k hk
theorem rcl_length (r:RcT) (A:Nat→Option Addr) (c:Nat→Nat):(rcl r A c).length=25:=rfl
def rlist (r:RcT):Nat→List Int
 |0=>r.salt
 |1=>r.check
 |k+2=>(r.s k).wrap
def RcV (w:World) (r:RcT) (A:Nat→Option Addr) (c:Nat→Nat):Prop:=∀ j,j<6→Kd.C (Kd.int .u8) w (A j) (rlist r j).length (rlist r j)∧(rlist r j).length≤c j
def RcO (base:Nat) (w:World) (r:RcT) (A:Nat→Option Addr) (c:Nat→Nat):Prop:=∀ j,j<6→w.ownsRow base 5 1 (.slice (A j) (rlist r j).length (c j)) (rlist r j).length (nums .u8 (rlist r j))
theorem RcV.below {w w':World} {r:RcT} {A:Nat→Option Addr} {c:Nat→Nat} (h:RcV w r A c) (hb:Below w.heap.size w w'):RcV w' r A c:=
 fun j hj=>⟨Kd.C_below (h j hj).1 hb,(h j hj).2⟩
theorem RcO.v {base:Nat} {w:World} {r:RcT} {A:Nat→Option Addr} {c:Nat→Nat} (h:RcO base w r A c):RcV w r A c:=
 fun j hj=>⟨(C_of_own (h j hj)).2.2,(C_of_own (h j hj)).2.1⟩
theorem RcO.below {base:Nat} {w w':World} {r:RcT} {A:Nat→Option Addr} {c:Nat→Nat} (h:RcO base w r A c) (hb:Below w.heap.size w w'):RcO base w' r A c:=
 fun j hj=>own_move (h j hj) (fun k hk=>hb.block k ((h j hj).lt k hk).2)
theorem RcO.but {base g:Nat} {w w':World} {r:RcT} {A:Nat→Option Addr} {c:Nat→Nat} (h:RcO base w r A c) {cs:Array Value} {t:TypeId} (hg:w.heap[g]?=some (.cells cs t (0,0))) (ht:t≠5) (hb:But g w w'):RcO base w' r A c:=
 fun j hj=>own_move (h j hj) (fun k hk=>hb.2 k ((h j hj).lt k hk).2 (fun e=>own_ne (h j hj) hg ht k hk e))
theorem RcO.zero (base:Nat) (w:World):RcO base w rcZero (fun _=>none) (fun _=>0):=fun j hj=>by
 have:rlist rcZero j=[]:=by
  match j with
  |0=>rfl
  |1=>rfl
  |k+2=>rfl
 rw[this]
 exact World.ownsRow_nil _ _ _ _
theorem RcV.zero (w:World):RcV w rcZero (fun _=>none) (fun _=>0):=(RcO.zero 0 w).v
theorem rlist_upd (r:RcT) (k:Nat) (x:SlT) (j:Nat):rlist { r with s:=upd r.s k x } j=if j=k+2 then x.wrap else rlist r j:=by
 match j with
 |0=>rw[if_neg (by omega)];rfl
 |1=>rw[if_neg (by omega)];rfl
 |i+2=>
  by_cases e:i=k
  ·subst e;rw[if_pos rfl];show (upd r.s i x i).wrap=_;rw[upd_same]
  rw[if_neg (by omega)];show (upd r.s k x i).wrap=_;rw[upd_other _ _ _ _ e];rfl
theorem RcO.upd {base:Nat} {w:World} {r:RcT} {A:Nat→Option Addr} {c:Nat→Nat} (h:RcO base w r A c) (k:Nat) (x:SlT) (a:Option Addr) (n:Nat) (ho:w.ownsRow base 5 1 (.slice a x.wrap.length n) x.wrap.length (nums .u8 x.wrap)) :
  RcO base w { r with s:=Own.upd r.s k x } (Own.upd A (k+2) a) (Own.upd c (k+2) n):=fun j hj=>by
 rw[rlist_upd]
 by_cases e:j=k+2
 ·subst e
  rw[if_pos rfl,upd_same,upd_same];exact ho
 rw[if_neg e,upd_other _ _ _ _ e,upd_other _ _ _ _ e];exact h j hj
theorem RcV.upd {w:World} {r:RcT} {A:Nat→Option Addr} {c:Nat→Nat} (h:RcV w r A c) (k:Nat) (x:SlT) (a:Option Addr) (n:Nat) (hC:Kd.C (Kd.int .u8) w a x.wrap.length x.wrap) (hn:x.wrap.length≤n) :
  RcV w { r with s:=Own.upd r.s k x } (Own.upd A (k+2) a) (Own.upd c (k+2) n):=fun j hj=>by
 rw[rlist_upd]
 by_cases e:j=k+2
 ·subst e
  rw[if_pos rfl,upd_same,upd_same];exact ⟨hC,hn⟩
 rw[if_neg e,upd_other _ _ _ _ e,upd_other _ _ _ _ e];exact h j hj
theorem rcs_congr {s s':Nat→SlT} (h:∀ k,k<4→s k=s' k) (A:Nat→Option Addr) (c:Nat→Nat):rcs s A c=rcs s' A c:=by
 simp only[rcs,h 0 (by omega),h 1 (by omega),h 2 (by omega),h 3 (by omega)]
section
variable {w:World} {g:Nat} {t:TypeId}
theorem range_of_block {L:List Value} (h:w.heap[g]?=some (.cells L.toArray t (0,0))) (o n:Nat):w.rangeAt g o ((L.drop o).take n):=fun j v hj=>by
 rw[List.getElem?_take] at hj
 split at hj
 ·rw[List.getElem?_drop] at hj
  exact (blk_cell h (o+j)).trans (by simpa using hj)
 cases hj
theorem there_of_block {L:List Value} (h:w.heap[g]?=some (.cells L.toArray t (0,0))) (o n:Nat) (hn:o+n≤L.length):w.there g o n:=fun j hj=>
 ⟨by rw[blk_cell h (o+j)];simp;omega,blk_frozen h (o+j)⟩
theorem rc_slot {r:RcT} {A:Nat→Option Addr} {c:Nat→Nat} (h:w.heap[g]?=some (.cells (rcl r A c).toArray t (0,0))) (k:Nat) (hk:k<4):w.rangeAt g (5+k*5) (slcl (r.s k) (A (k+2)) (c (k+2))):=by
 have:=range_of_block h (5+k*5) 5
 rw[rcl_slot r A c k hk] at this
 exact this
theorem rc_slots {r:RcT} {A:Nat→Option Addr} {c:Nat→Nat} (h:w.heap[g]?=some (.cells (rcl r A c).toArray t (0,0))):w.rangeAt g 5 (rcs r.s A c):=range_of_block h 5 20
theorem rc_head {r:RcT} {A:Nat→Option Addr} {c:Nat→Nat} (h:w.heap[g]?=some (.cells (rcl r A c).toArray t (0,0))) :
  w.cell? ⟨g,0,none⟩=some (.int .u64 r.gen)∧w.cell? ⟨g,1,none⟩=some (.int .u64 r.epoch)∧w.cell? ⟨g,2,none⟩=some (.slice (A 0) r.salt.length (c 0))∧w.cell? ⟨g,3,none⟩=some (.int .u64 r.bad)∧w.cell? ⟨g,4,none⟩=some (.slice (A 1) r.check.length (c 1)):=
 ⟨(blk_cell h 0).trans rfl,(blk_cell h 1).trans rfl,(blk_cell h 2).trans rfl,(blk_cell h 3).trans rfl,(blk_cell h 4).trans rfl⟩
theorem sl_cells {x:SlT} {A:Option Addr} {c:Nat} (h:w.heap[g]?=some (.cells (slcl x A c).toArray t (0,0))) :
  w.cell? ⟨g,0,none⟩=some (.bool x.used)∧w.cell? ⟨g,1,none⟩=some (.int .i64 x.size)∧w.cell? ⟨g,2,none⟩=some (.int .u64 x.epoch)∧w.cell? ⟨g,3,none⟩=some (.int .u64 x.count)∧w.cell? ⟨g,4,none⟩=some (.slice A x.wrap.length c):=
 ⟨(blk_cell h 0).trans rfl,(blk_cell h 1).trans rfl,(blk_cell h 2).trans rfl,(blk_cell h 3).trans rfl,(blk_cell h 4).trans rfl⟩
theorem rc_set {r:RcT} {A:Nat→Option Addr} {c:Nat→Nat} (h:w.heap[g]?=some (.cells (rcl r A c).toArray t (0,0))) (k:Nat) (hk:k<4) (x:SlT) (a:Option Addr) (n:Nat) :
  (w.setCells g (5+k*5) (slcl x a n)).heap[g]?=some (.cells (rcl { r with s:=upd r.s k x } (upd A (k+2) a) (upd c (k+2) n)).toArray t (0,0)):=by
 have:=heap_setCells_mid (slcl x a n) (5+k*5) w _ h (by have:((rcl r A c).toArray).size=25:=rfl;rw[this];show 5+k*5+5≤25;omega)
 rw[← rcl_upd r A c x a n k hk]
 exact this
end
abbrev zSl:Array Value:=(slcl slZero none 0).toArray
abbrev zRc:Array Value:=(rcl rcZero (fun _=>none) (fun _=>0)).toArray
theorem infoSl:(Try.prog.info? 25).map (fun i=>(i.zero,i.size))=some (some (.agg zSl),5):=by kernel_rfl
theorem infoSr:(Try.prog.info? 36).map (fun i=>(i.zero,i.size))=some (some (.agg zSl),5):=by kernel_rfl
theorem infoRc:(Try.prog.info? 28).map (fun i=>(i.zero,i.size))=some (some (.agg zRc),25):=by kernel_rfl
theorem infoRr:(Try.prog.info? 39).map (fun i=>(i.zero,i.size))=some (some (.agg zRc),25):=by kernel_rfl
theorem size_of_info {t:TypeId} {v:Option Value} {n:Nat} (h:(Try.prog.info? t).map (fun i=>(i.zero,i.size))=some (v,n)):(Try.prog.info? t).map (·.size)=some n:=by
 cases hq:Try.prog.info? t with
 |none=>rw[hq] at h;simp at h
 |some i=>rw[hq] at h;simp at h;simp[h.2]
theorem szSl:(Try.prog.info? 25).map (·.size)=some 5:=size_of_info infoSl
theorem szSr:(Try.prog.info? 36).map (·.size)=some 5:=size_of_info infoSr
theorem szRc:(Try.prog.info? 28).map (·.size)=some 25:=size_of_info infoRc
theorem szRr:(Try.prog.info? 39).map (·.size)=some 25:=size_of_info infoRr
theorem slcl_one (x:SlT) (A:Option Addr) (c:Nat):(slcl x A c).toArray.all (·.oneCell')=true:=by simp[Value.oneCell']
theorem rcl_one (r:RcT) (A:Nat→Option Addr) (c:Nat→Nat):(rcl r A c).toArray.all (·.oneCell')=true:=by simp[Value.oneCell']
theorem builtSl0:Try.prog.built 25 (#[]:Array (Nat × Value)).toList=some zSl:=by kernel_rfl
theorem builtRc0:Try.prog.built 28 (#[]:Array (Nat × Value)).toList=some zRc:=by kernel_rfl
theorem builtSl (u:Bool) (a b c:Int) (A:Option Addr) (n k:Nat):Try.prog.built 25 (#[(0,.bool u),(1,.int .i64 a),(2,.int .u64 b),(3,.int .u64 c),(4,.slice A n k)]:Array (Nat × Value)).toList=some #[.bool u,.int .i64 a,.int .u64 b,.int .u64 c,.slice A n k]:=by kernel_rfl
theorem builtSr (u:Bool) (a b c:Int) (A:Option Addr) (n k:Nat):Try.prog.built 36 (#[(0,.bool u),(1,.int .i64 a),(2,.int .u64 b),(3,.int .u64 c),(4,.slice A n k)]:Array (Nat × Value)).toList=some #[.bool u,.int .i64 a,.int .u64 b,.int .u64 c,.slice A n k]:=by kernel_rfl
end Go.Proofs.Ytbajioiiaamokaa.Own
