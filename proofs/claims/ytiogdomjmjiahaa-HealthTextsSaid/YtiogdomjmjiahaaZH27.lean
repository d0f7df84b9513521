/- HtW, pruned (slim.py). -/
import Derived.Test.YtiogdomjmjiahaaZH26
namespace Go.Proofs.Ytiogdomjmjiahaa.Own
open Go.RowKit Go.Proofs.Ytiogdomjmjiahaa.Arr Go.Proofs.Ytiogdomjmjiahaa.QA Go.Proofs.Ytiogdomjmjiahaa.QB Go.Proofs.YtiogdomjmjiahaaW.PrintWords Go.Proofs.YtiogdomjmjiahaaW.PrintLast Go.Proofs.YtiogdomjmjiahaaW.PrintMore
set_option linter.unusedVariables false
set_option linter.unusedSimpArgs false
def pk4 {α:Type} (a b c d:α):Nat→α
 |0=>a
 |1=>b
 |2=>c
 |_=>d
def pk5 {α:Type} (z a b c d e:α):Nat→α
 |1=>a
 |2=>b
 |3=>c
 |4=>d
 |5=>e
 |_=>z
def pk8 {α:Type} (z a b c d e f g h:α):Nat→α
 |1=>a
 |2=>b
 |3=>c
 |4=>d
 |5=>e
 |6=>f
 |7=>g
 |8=>h
 |_=>z
theorem inI_wf {n:Int} (h:(Lit.int .i64 n).wf=true):inI n:=by
 simp[Lit.wf,IntKind.min,IntKind.max,IntKind.signed,IntKind.bits] at h
 exact ⟨by omega,by omega⟩
theorem inI_zero:inI 0:=⟨by decide,by decide⟩
theorem nat_wf {n:Int} (h:(Lit.int .u64 n).wf=true):∃ m:Nat,n=(m:Int)∧m<18446744073709551616:=by
 simp[Lit.wf,IntKind.min,IntKind.max,IntKind.signed,IntKind.bits] at h
 exact ⟨n.toNat,by omega,by omega⟩
def spOf (x:Opz.T43):Nat→Int:=pk5 0 x.2.1 x.2.2.1 x.2.2.2.1 x.2.2.2.2.1 x.2.2.2.2.2
theorem spOf_in {x:Opz.T43} (h:Opz.W43 x):∀ k,inI (spOf x k):=by
 obtain ⟨-,h1,h2,h3,h4,h5⟩:=h
 intro k
 unfold spOf pk5
 split
 ·exact inI_wf h1
 ·exact inI_wf h2
 ·exact inI_wf h3
 ·exact inI_wf h4
 ·exact inI_wf h5
 exact inI_zero
theorem space_open {w:World} {x:Opz.T43} {cs:List Value} (h:Opz.kd43.K w x cs):cs=[.bool x.1,.int .i64 (spOf x 1),.int .i64 (spOf x 2),.int .i64 (spOf x 3),.int .i64 (spOf x 4),.int .i64 (spOf x 5)]:=by
 obtain ⟨a,b,c,d,e,f⟩:=x
 obtain ⟨c0,r0,rfl,k0,c1,r1,rfl,k1,c2,r2,rfl,k2,c3,r3,rfl,k3,c4,r4,rfl,k4,k5⟩:=h
 obtain rfl:c0=[.bool a]:=k0
 obtain rfl:c1=[.int .i64 b]:=k1
 obtain rfl:c2=[.int .i64 c]:=k2
 obtain rfl:c3=[.int .i64 d]:=k3
 obtain rfl:c4=[.int .i64 e]:=k4
 obtain rfl:r4=[.int .i64 f]:=k5
 rfl
theorem rep_open {w:World} {x:Opz.T47} {cs:Array Value} (hK:Opz.K47 w x cs.toList) (hw:Opz.W47 x) :
  ∃ (A:Option Addr) (c:Nat) (E:List Int) (f:Nat→Int) (b:Nat→Bool) (p:Nat→Nat→Int) (e u:Nat) (ro:Bool),cs=repc A E.length c f b p e u ro∧(∀ k,inI (f k))∧(∀ j k,inI (p j k))∧e<18446744073709551616∧u<18446744073709551616∧(∀ k,inI (E.getD k 0))∧Kd.C (Kd.int .i64) w A E.length E∧E.length≤c∧E.length≤140737488351232:=by
 obtain ⟨E,f1,f2,f3,f4,f5,f6,f7,f8,sl,e,u,ro⟩:=x
 obtain ⟨c0,r0,q0,k0,c1,r1,q1,k1,c2,r2,q2,k2,c3,r3,q3,k3,c4,r4,q4,k4,c5,r5,q5,k5,c6,r6,q6,k6,c7,r7,q7,k7,c8,r8,q8,k8,c9,r9,q9,⟨k9,k9'⟩,c10,r10,q10,k10,c11,r11,q11,k11,k12⟩:=hK
 obtain ⟨⟨w0,w0'⟩,w1,w2,w3,w4,w5,w6,w7,w8,w9,w10,w11,-⟩:=hw
 obtain ⟨A,c,rfl,hc,hC⟩:=k0
 obtain rfl:c1=[.int .i64 f1]:=k1
 obtain rfl:c2=[.int .i64 f2]:=k2
 obtain rfl:c3=[.int .i64 f3]:=k3
 obtain rfl:c4=[.int .i64 f4]:=k4
 obtain rfl:c5=[.int .i64 f5]:=k5
 obtain rfl:c6=[.int .i64 f6]:=k6
 obtain rfl:c7=[.int .i64 f7]:=k7
 obtain rfl:c8=[.int .i64 f8]:=k8
 obtain rfl:c10=[.int .u64 e]:=k10
 obtain rfl:c11=[.int .u64 u]:=k11
 obtain rfl:r11=[.bool ro]:=k12
 obtain ⟨e',rfl,he⟩:=nat_wf w10
 obtain ⟨u',rfl,hu⟩:=nat_wf w11
 match sl,k9,k9',w9 with
 |[s0,s1,s2,s3],_,k9',w9=>
  obtain ⟨p0,t0,rfl,m0,p1,t1,rfl,m1,p2,t2,rfl,m2,p3,t3,rfl,m3,hq⟩:=k9'
  obtain rfl:t3=[]:=hq
  have z0:=space_open m0
  have z1:=space_open m1
  have z2:=space_open m2
  have z3:=space_open m3
  have y0:=spOf_in (w9 s0 (by simp))
  have y1:=spOf_in (w9 s1 (by simp))
  have y2:=spOf_in (w9 s2 (by simp))
  have y3:=spOf_in (w9 s3 (by simp))
  refine ⟨A,c,E,pk8 0 f1 f2 f3 f4 f5 f6 f7 f8,pk4 s0.1 s1.1 s2.1 s3.1,pk4 (spOf s0) (spOf s1) (spOf s2) (spOf s3),e',u',ro,?_,?_,?_,he,hu,?_,hC,hc,w0⟩
  ·apply Array.toList_inj.1
   rw[q0,q1,q2,q3,q4,q5,q6,q7,q8,q9,q10,q11,z0,z1,z2,z3]
   rfl
  ·intro k
   unfold pk8
   split
   ·exact inI_wf w1
   ·exact inI_wf w2
   ·exact inI_wf w3
   ·exact inI_wf w4
   ·exact inI_wf w5
   ·exact inI_wf w6
   ·exact inI_wf w7
   ·exact inI_wf w8
   exact inI_zero
  ·intro j
   unfold pk4
   split
   ·exact y0
   ·exact y1
   ·exact y2
   exact y3
  intro k
  rw[List.getD_eq_getElem?_getD]
  cases h:E[k]? with
  |none=>exact inI_zero
  |some v=>exact inI_wf (w0' v (List.mem_of_getElem? h))
set_option maxHeartbeats 8000000 in
set_option maxRecDepth 100000 in
theorem healthTexts_big (A A':Option Addr) (k1 c k2 c':Nat) (f f':Nat→Int) (b b':Nat→Bool) (p p':Nat→Nat→Int) (e e' u u':Int) (ro ro':Bool) (n:Int) (w:World) (h:100<k1∨(k1≤100∧100<k2)) :
  Calls Try.prog 6 #[.agg (repc A k1 c f b p e u ro),.agg (repc A' k2 c' f' b' p' e' u' ro'),.int .i64 n] w fun e_ w'=>e_=.returned (.bool true)∧Below w.heap.size w w':=by
 have hawk:=Lib.hid awake32
 obtain ⟨CA,hCA⟩:∃ CA,CA=repc A k1 c f b p e u ro:=⟨_,rfl⟩
 obtain ⟨CB,hCB⟩:∃ CA,CA=repc A' k2 c' f' b' p' e' u' ro':=⟨_,rfl⟩
 obtain ⟨W1,hW1⟩:∃ W1,W1=(w.alloc (.cells CA 47 (0,0))).alloc (.cells CB 47 (0,0)):=⟨_,rfl⟩
 have a1:=Lib.hid (show W1.heap[w.heap.size]?=some (.cells CA 47 (0,0)) by rw[hW1,heap_skip _ _ _ (by simp)];exact heap_alloc_last _ _)
 have c1:=Lib.hid (show W1.heap[w.heap.size+1]?=some (.cells CB 47 (0,0)) by rw[hW1];have:=heap_alloc_last (w.alloc (.cells CA 47 (0,0))) (.cells CB 47 (0,0));simpa using this)
 have b1:=Lib.hid (show Below w.heap.size w W1 by rw[hW1];exact below_alloc ((Below.refl _ _).alloc (Nat.le_refl _) _) _)
 have qa:=(rep_cells (by rw[← hCA];exact a1.out)).1
 have qb:=(rep_cells (by rw[← hCB];exact c1.out)).1
 rw[← hCA,← hCB]
 clear hCA hCB a1 c1
 rcases h with h1 | ⟨h0,h1⟩
 ·have h2:100<(k1:Int):=by omega
  clear h1
  go_enter Try.func6,Try.ntmps6
  go_upto_region 1 with fail
  rw[← hW1]
  clear hW1
  go_wp2_with ((with_reducible go_at_call 24);refine (hawk.out _).mono ?_;rintro e_ w2 ⟨rfl,hb⟩;have b2:=Lib.hid (below_step b1.out hb);clear hb)
  go_ret
  exact ⟨rfl,b2.out⟩
 have h2:100<(k2:Int):=by omega
 have h3:(k1:Int)≤100:=by omega
 clear h0 h1
 go_enter Try.func6,Try.ntmps6
 go_upto_region 1 with fail
 rw[← hW1]
 clear hW1
 go_wp2_with ((with_reducible go_at_call 24);refine (hawk.out _).mono ?_;rintro e_ w2 ⟨rfl,hb⟩;have b2:=Lib.hid (below_step b1.out hb);clear hb)
 go_ret
 exact ⟨rfl,b2.out⟩
theorem HealthTexts_walk (w:World) (x:Opz.T47) (cs:Array Value) (hK:Opz.K47 w x cs.toList) (hw:Opz.W47 x) (y:Opz.T47) (ds:Array Value) (hK':Opz.K47 w y ds.toList) (hw':Opz.W47 y) (n:Int) (hn:(Lit.int .i64 n).wf=true) :
  Calls Try.prog 6 #[.agg cs,.agg ds,.int .i64 n] w fun e w'=>e=.returned (.bool true)∧Below w.heap.size w w':=by
 obtain ⟨A,c,E,f,b,p,e,u,ro,rfl,hf,hp,he,hu,hE,hC,hc,hl⟩:=rep_open hK hw
 obtain ⟨A',c',E',f',b',p',e',u',ro',rfl,hf',hp',he',hu',hE',hC',hc',hl'⟩:=rep_open hK' hw'
 by_cases h1:E.length≤100
 ·by_cases h2:E'.length≤100
  ·exact healthTexts_law A A' c c' E E' f f' b b' p p' e e' u u' ro ro' n w hf hf' hp hp' he hu (inI_wf hn) h1 h2 hE hC hc hC' hc'
  exact healthTexts_big A A' _ c _ c' f f' b b' p p' e e' u u' ro ro' n w (.inr ⟨h1,by omega⟩)
 exact healthTexts_big A A' _ c _ c' f f' b b' p p' e e' u u' ro ro' n w (.inl (by omega))
end Go.Proofs.Ytiogdomjmjiahaa.Own
