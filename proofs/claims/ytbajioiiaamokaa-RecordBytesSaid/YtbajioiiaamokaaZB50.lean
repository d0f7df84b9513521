/- RbW, pruned (slim.py). -/
import Derived.Test.YtbajioiiaamokaaZB47
import Derived.Test.YtbajioiiaamokaaZB49
namespace Go.Proofs.Ytbajioiiaamokaa.Own
open Go.RowKit Go.Proofs.Ytbajioiiaamokaa.Arr Go.Proofs.Ytbajioiiaamokaa.QB Go.Proofs.YtbajioiiaamokaaW.PrintWords Go.Proofs.YtbajioiiaamokaaW.PrintLast Go.Proofs.YtbajioiiaamokaaW.PrintMore
set_option linter.unusedVariables false
set_option linter.unusedSimpArgs false
def slOf (x:Opz.T25):SlT:=⟨x.1,x.2.1,x.2.2.1,x.2.2.2.1,x.2.2.2.2⟩
theorem slot_open {w:World} {x:Opz.T25} {cs:List Value} (h:Opz.kd25.K w x cs):∃ A c,cs=slcl (slOf x) A c∧Kd.C (Kd.int .u8) w A (slOf x).wrap.length (slOf x).wrap∧(slOf x).wrap.length≤c:=by
 obtain ⟨a,b,c,d,l⟩:=x
 obtain ⟨c0,r0,rfl,k0,c1,r1,rfl,k1,c2,r2,rfl,k2,c3,r3,rfl,k3,A,n,rfl,hn,hC⟩:=h
 obtain rfl:c0=[.bool a]:=k0
 obtain rfl:c1=[.int .i64 b]:=k1
 obtain rfl:c2=[.int .u64 c]:=k2
 obtain rfl:c3=[.int .u64 d]:=k3
 exact ⟨A,n,rfl,hC,hn⟩
def pick4 {α:Type} (a b c d:α):Nat→α
 |0=>a
 |1=>b
 |2=>c
 |_=>d
def pick6 {α:Type} (p q:α) (f:Nat→α):Nat→α
 |0=>p
 |1=>q
 |k+2=>f k
theorem u64_wf {n:Int} (h:(Lit.int .u64 n).wf=true):0≤n∧n<18446744073709551616:=by
 simp[Lit.wf,IntKind.min,IntKind.max,IntKind.signed,IntKind.bits] at h
 exact ⟨by omega,by omega⟩
theorem lgL_part (r:RcT) (j:Nat) (hj:j<6):(rlist r j).length≤lgL r 4:=by
 have h:lgL r 4=r.salt.length+r.check.length+(r.s 0).wrap.length+(r.s 1).wrap.length+(r.s 2).wrap.length+(r.s 3).wrap.length:=by
  rw[lgL_succ,lgL_succ,lgL_succ,lgL_succ]
  simp[lgL]
 match j,hj with
 |0,_=>show r.salt.length≤_;omega
 |1,_=>show r.check.length≤_;omega
 |2,_=>show (r.s 0).wrap.length≤_;omega
 |3,_=>show (r.s 1).wrap.length≤_;omega
 |4,_=>show (r.s 2).wrap.length≤_;omega
 |5,_=>show (r.s 3).wrap.length≤_;omega
theorem RecordBytes_walk (w:World) (x:Opz.T28) (cs:Array Value) (hK:Opz.K28 w x cs.toList) (hw:Opz.W28 x) (A1:Option Addr) (c1:Nat) (x1:List Int) (b1:x1.length≤c1) (C1:Kd.C (Kd.int .u8) w A1 x1.length x1) (w1:x1.length≤140737488351232∧∀ x ∈ x1,(Lit.int .u8 x).wf=true) :
  Calls Try.prog 3 #[.agg cs,.slice A1 x1.length c1] w fun e w'=>e=.returned (.bool true)∧Below w.heap.size w w':=by
 obtain ⟨gen,ep,salt,bad,check,sl⟩:=x
 obtain ⟨d0,r0,e0,k0,d1,r1,e1,k1,d2,r2,e2,k2,d3,r3,e3,k3,d4,r4,e4,k4,hl,hv⟩:=hK
 obtain ⟨u0,u1,⟨u2,u2'⟩,u3,⟨u4,u4'⟩,u5⟩:=hw
 obtain rfl:d0=[.int .u64 gen]:=k0
 obtain rfl:d1=[.int .u64 ep]:=k1
 obtain ⟨As,cS,rfl,hs,hCs⟩:=k2
 obtain rfl:d3=[.int .u64 bad]:=k3
 obtain ⟨Ac,cC,rfl,hc,hCc⟩:=k4
 match sl,hl,hv,u5 with
 |[s0,s1,s2,s3],_,hv,u5=>
  obtain ⟨p0,q0,rfl,m0,p1,q1,rfl,m1,p2,q2,rfl,m2,p3,q3,rfl,m3,hq⟩:=hv
  obtain rfl:q3=[]:=hq
  obtain ⟨S0,n0,rfl,hC0,hn0⟩:=slot_open m0
  obtain ⟨S1,n1,rfl,hC1,hn1⟩:=slot_open m1
  obtain ⟨S2,n2,rfl,hC2,hn2⟩:=slot_open m2
  obtain ⟨S3,n3,rfl,hC3,hn3⟩:=slot_open m3
  have v0:=u5 s0 (by simp)
  have v1:=u5 s1 (by simp)
  have v2:=u5 s2 (by simp)
  have v3:=u5 s3 (by simp)
  obtain ⟨r,hr⟩:∃ r:RcT,r=⟨gen,ep,salt,bad,check,pick4 (slOf s0) (slOf s1) (slOf s2) (slOf s3)⟩:=⟨_,rfl⟩
  obtain ⟨A,hA⟩:∃ A:Nat→Option Addr,A=pick6 As Ac (pick4 S0 S1 S2 S3):=⟨_,rfl⟩
  obtain ⟨c,hcc⟩:∃ A:Nat→Nat,A=pick6 cS cC (pick4 n0 n1 n2 n3):=⟨_,rfl⟩
  have hcs:cs=(rcl r A c).toArray:=by
   apply Array.toList_inj.1
   rw[e0,e1,e2,e3,e4,hr,hA,hcc]
   rfl
  have hV:RcV w r A c:=fun j hj=>by
   rw[hr,hA,hcc]
   match j,hj with
   |0,_=>exact ⟨hCs,hs⟩
   |1,_=>exact ⟨hCc,hc⟩
   |2,_=>exact ⟨hC0,hn0⟩
   |3,_=>exact ⟨hC1,hn1⟩
   |4,_=>exact ⟨hC2,hn2⟩
   |5,_=>exact ⟨hC3,hn3⟩
  have hlen:∀ j,j<6→(rlist r j).length≤140737488355328:=fun j hj=>by
   rw[hr]
   match j,hj with
   |0,_=>exact Nat.le_trans (show salt.length≤140737488351232 from u2) (by decide)
   |1,_=>exact Nat.le_trans (show check.length≤140737488351232 from u4) (by decide)
   |2,_=>exact Nat.le_trans (show (slOf s0).wrap.length≤140737488351232 from v0.2.2.2.2.1) (by decide)
   |3,_=>exact Nat.le_trans (show (slOf s1).wrap.length≤140737488351232 from v1.2.2.2.2.1) (by decide)
   |4,_=>exact Nat.le_trans (show (slOf s2).wrap.length≤140737488351232 from v2.2.2.2.2.1) (by decide)
   |5,_=>exact Nat.le_trans (show (slOf s3).wrap.length≤140737488351232 from v3.2.2.2.2.1) (by decide)
  have hnum:∀ k,k<4→(0≤(r.s k).epoch∧(r.s k).epoch<18446744073709551616)∧(0≤(r.s k).count∧(r.s k).count<18446744073709551616):=fun k hk=>by
   rw[hr]
   match k,hk with
   |0,_=>exact ⟨u64_wf v0.2.2.1,u64_wf v0.2.2.2.1⟩
   |1,_=>exact ⟨u64_wf v1.2.2.1,u64_wf v1.2.2.2.1⟩
   |2,_=>exact ⟨u64_wf v2.2.2.1,u64_wf v2.2.2.2.1⟩
   |3,_=>exact ⟨u64_wf v3.2.2.1,u64_wf v3.2.2.2.1⟩
  have hbw:∀ k,k<4→∀ x ∈ (r.s k).wrap,byt x:=fun k hk=>by
   rw[hr]
   match k,hk with
   |0,_=>exact byt_wf v0.2.2.2.2.2
   |1,_=>exact byt_wf v1.2.2.2.2.2
   |2,_=>exact byt_wf v2.2.2.2.2.2
   |3,_=>exact byt_wf v3.2.2.2.2.2
  have hbs:∀ x ∈ r.salt,byt x:=by rw[hr];exact byt_wf u2'
  have hbc:∀ x ∈ r.check,byt x:=by rw[hr];exact byt_wf u4'
  have hfit:rcRight r=true→recFit r:=fun h=>recFit_of h (by rw[hr];exact u64_wf u0) (by rw[hr];exact u64_wf u1) (by rw[hr];exact u64_wf u3) hnum
  rw[hcs]
  clear hr hA hcc hcs
  cases hli:light18 r with
  |false=>exact bytes_heavy r A c A1 x1.length c1 w hlen hli
  |true=>
   have h2:lgL r 4≤2000:=of_decide_eq_true hli
   exact bytes_light r A c A1 c1 x1 w hV hfit C1 b1 (byt_wf w1.2) (by have:=w1.1;omega) hbs hbc hbw (fun j hj=>Nat.le_trans (lgL_part r j hj) h2) hli
end Go.Proofs.Ytbajioiiaamokaa.Own
