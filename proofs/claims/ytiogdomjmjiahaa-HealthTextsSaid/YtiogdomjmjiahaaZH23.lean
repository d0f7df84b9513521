/- HtF, pruned (slim.py). -/
import Derived.Test.YtiogdomjmjiahaaZH21
import Derived.Test.YtiogdomjmjiahaaZH22
import Derived.Test.YtiogdomjmjiahaaZH12
namespace Go.Proofs.Ytiogdomjmjiahaa.Own
open Go.RowKit Go.Proofs.Ytiogdomjmjiahaa.Arr Go.Proofs.Ytiogdomjmjiahaa.QA Go.Proofs.Ytiogdomjmjiahaa.QB Go.Proofs.YtiogdomjmjiahaaW.PrintWords Go.Proofs.YtiogdomjmjiahaaW.PrintLast Go.Proofs.YtiogdomjmjiahaaW.PrintMore
set_option linter.unusedVariables false
set_option linter.unusedSimpArgs false
attribute [-go_sem] Instr.build
theorem eqInts_l (a b:List Int) (h:a.length=b.length) (hl:a.length≤281474976710656) (d:Nat):∀ i,i+d=a.length→∀ k,slices_Equal_int_int.l0 (k+d+1) a b (a.length:Int) (i:Int)=some (decide (a.drop i=b.drop i)):=by
 induction d with
 |zero=>
  intro i hi k
  rw[slices_Equal_int_int.l0,if_neg (by omega),List.drop_eq_nil_of_le (by omega),List.drop_eq_nil_of_le (by omega)]
  simp
 |succ d ih=>
  intro i hi k
  have:=ih (i+1) (by omega) k
  rw[show ((i+1:Nat):Int)=(i:Int)+1 from by omega] at this
  rw[show k+(d+1)+1=(k+d+1)+1 from by omega,slices_Equal_int_int.l0,if_pos (by omega),if_pos (by omega),if_pos (by omega),if_pos (by omega),w64 _ (by omega) (by omega),rd_nat,rd_nat,this,drop_cons a i (by omega),drop_cons b i (by omega)]
  by_cases e:a.getD i 0=b.getD i 0
  ·rw[if_pos e,e];simp
  rw[if_neg e,decide_eq_false (fun h=>e (List.cons.inj h).1)]
theorem eqInts (a b:List Int) (hl:a.length≤281474976710656) (k:Nat):slices_Equal_int_int.f (k+a.length+1) a b=some (decide (a=b)):=by
 unfold slices_Equal_int_int.f
 by_cases h:a.length=b.length
 ·rw[if_pos (by omega)]
  have:=eqInts_l a b h hl a.length 0 (by omega) k
  rw[List.drop_zero,List.drop_zero] at this
  exact this
 rw[if_neg (by omega)]
 congr 1
 exact (decide_eq_false (fun e=>h (by rw[e]))).symm
theorem samInts_l (a b:List Int) (h:a.length=b.length) (hl:a.length≤281474976710656) (d:Nat):∀ i,i+d=a.length→∀ k,nepentheref01_SameInts.l0 (k+d+1) a b (i:Int)=some (decide (a.drop i=b.drop i)):=by
 induction d with
 |zero=>
  intro i hi k
  rw[nepentheref01_SameInts.l0,if_neg (by omega),List.drop_eq_nil_of_le (by omega),List.drop_eq_nil_of_le (by omega)]
  simp
 |succ d ih=>
  intro i hi k
  have:=ih (i+1) (by omega) k
  rw[show ((i+1:Nat):Int)=(i:Int)+1 from by omega] at this
  rw[show k+(d+1)+1=(k+d+1)+1 from by omega,nepentheref01_SameInts.l0,if_pos (by omega),if_pos (by omega),if_pos (by omega),w64 _ (by omega) (by omega),rd_nat,rd_nat,this,drop_cons a i (by omega),drop_cons b i (by omega)]
  by_cases e:a.getD i 0=b.getD i 0
  ·rw[if_pos e,e];simp
  rw[if_neg e,decide_eq_false (fun h=>e (List.cons.inj h).1)]
theorem samInts (a b:List Int) (hl:a.length≤281474976710656) (k:Nat):nepentheref01_SameInts.f (k+a.length+1) a b=some (decide (a=b)):=by
 unfold nepentheref01_SameInts.f
 by_cases h:a.length=b.length
 ·rw[if_pos (by omega)]
  have:=samInts_l a b h hl a.length 0 (by omega) k
  rw[List.drop_zero,List.drop_zero] at this
  exact this
 rw[if_neg (by omega)]
 congr 1
 exact (decide_eq_false (fun e=>h (by rw[e]))).symm
theorem builtE8 (f1 f2 f3 f4 f5 f6 f7 f8:Int):Try.prog.built 111 (#[(0,.int .i64 f1),(1,.int .i64 f2),(2,.int .i64 f3),(3,.int .i64 f4),(4,.int .i64 f5),(5,.int .i64 f6),(6,.int .i64 f7),(7,.int .i64 f8)]:Array (Nat × Value)).toList=some #[.int .i64 f1,.int .i64 f2,.int .i64 f3,.int .i64 f4,.int .i64 f5,.int .i64 f6,.int .i64 f7,.int .i64 f8]:=by kernel_rfl
theorem infoE8:(Try.prog.info? 111).map (fun i=>(i.zero,i.size))=some (some (.agg (eightC (fun _=>0)).toArray),8):=by kernel_rfl
theorem szE8:(Try.prog.info? 111).map (·.size)=some 8:=by kernel_rfl
def sameV (x0 r:Bool) (e e' u u':Int) (ro ro':Bool) (r3:Bool):Bool:=x0 && (r && (decide (e=e') && (decide (u=u') && (decide (ro=ro') && r3))))
open Classical in
set_option maxHeartbeats 16000000 in
set_option maxRecDepth 100000 in
theorem same32_any (A A':Option Addr) (c c':Nat) (E E':List Int) (f f':Nat→Int) (b b':Nat→Bool) (p p':Nat→Nat→Int) (e e' u u':Int) (ro ro':Bool) (w:World) (hf:∀ k,inI (f k)) (hf':∀ k,inI (f' k)) (hp:∀ j k,inI (p j k)) (hp':∀ j k,inI (p' j k)) (hl:E.length≤281474976710656)
  (hA:Kd.C (Kd.int .i64) w A E.length E) (hc:E.length≤c) (hA':Kd.C (Kd.int .i64) w A' E'.length E') (hc':E'.length≤c') :
  Calls Try.prog 31 #[.agg (repc A E.length c f b p e u ro),.agg (repc A' E'.length c' f' b' p' e' u' ro')] w fun e_ w'=>e_=.returned (.bool (sameV (decide (E=E')) (decide (spLits b p=spLits b' p')) e e' u u' ro ro' (decide (eightL f=eightL f'))))∧Below w.heap.size w w':=by
 have hne:=fun (W:World)=>spaces_neq b b' p p' hp hp' W
 have hng:=fun (x y:Operand) (W:World)=>run_eqGuard_agg (P:=Try.prog) W .neq 44 x y (spaces b p).toArray (spaces b' p').toArray (by kernel_rfl)
 have he8:=fun (W:World)=>eight_eql f f' hf hf' W
 have hg8:=fun (x y:Operand) (W:World)=>run_eqGuard_agg (P:=Try.prog) W .eql 111 x y (eightC f).toArray (eightC f').toArray (by kernel_rfl)
 obtain ⟨x0,hx0⟩:∃ x:Bool,x=decide (E=E'):=⟨_,rfl⟩
 obtain ⟨r,hr⟩:∃ x:Bool,x=decide (spLits b p=spLits b' p'):=⟨_,rfl⟩
 obtain ⟨r3,hr3⟩:∃ x:Bool,x=decide (eightL f=eightL f'):=⟨_,rfl⟩
 rw[← hr] at hne
 rw[← hr3] at he8
 rw[← hr,← hr3,← hx0]
 have hsl:=Lib.hid (fun (W:World) (hW:Below w.heap.size w W)=>slices_Equal_int_int.calls (0+E.length+1) A c E A' c' E' x0 W (Kd.C_below hA hW) hc (Kd.C_below hA' hW) hc' (by rw[hx0];exact eqInts E E' hl 0))
 obtain ⟨CA,hCA⟩:∃ CA,CA=repc A E.length c f b p e u ro:=⟨_,rfl⟩
 obtain ⟨CB,hCB⟩:∃ CA,CA=repc A' E'.length c' f' b' p' e' u' ro':=⟨_,rfl⟩
 obtain ⟨LA,hLA⟩:∃ L,L=spaces b p:=⟨_,rfl⟩
 obtain ⟨LB,hLB⟩:∃ L,L=spaces b' p':=⟨_,rfl⟩
 obtain ⟨GA,hGA⟩:∃ G,G=(eightC f).toArray:=⟨_,rfl⟩
 obtain ⟨GB,hGB⟩:∃ G,G=(eightC f').toArray:=⟨_,rfl⟩
 obtain ⟨n,hn⟩:∃ n,n=E.length:=⟨_,rfl⟩
 obtain ⟨n',hn'⟩:∃ n,n=E'.length:=⟨_,rfl⟩
 have hcA:=Lib.hid (fun (W:World) (h:W.heap[w.heap.size]?=some (.cells CA 47 (0,0)))=>rep_cells (by rw[hCA] at h;exact h))
 have hcB:=Lib.hid (fun (W:World) (h:W.heap[w.heap.size+1]?=some (.cells CB 47 (0,0)))=>rep_cells (by rw[hCB] at h;exact h))
 have hrA:=Lib.hid (fun (W:World) (h:W.heap[w.heap.size]?=some (.cells CA 47 (0,0)))=>show W.rangeAt w.heap.size 9 LA by rw[hLA];exact rep_spaces (by rw[hCA] at h;exact h))
 have hrB:=Lib.hid (fun (W:World) (h:W.heap[w.heap.size+1]?=some (.cells CB 47 (0,0)))=>show W.rangeAt (w.heap.size+1) 9 LB by rw[hLB];exact rep_spaces (by rw[hCB] at h;exact h))
 have hsA:=Lib.hid (show (Try.prog.info? 44).map (·.size)=some LA.length by rw[hLA];exact szSp4)
 have hsB:=Lib.hid (show (Try.prog.info? 44).map (·.size)=some LB.length by rw[hLB];exact szSp4)
 have hbA:∀ (W:World),(Instr.build 111 #[(0,.int .i64 (f 1)),(1,.int .i64 (f 2)),(2,.int .i64 (f 3)),(3,.int .i64 (f 4)),(4,.int .i64 (f 5)),(5,.int .i64 (f 6)),(6,.int .i64 (f 7)),(7,.int .i64 (f 8))]).run Try.prog W=.ok (.agg GA) W:=fun W=>by rw[hGA];exact run_build W _ _ _ (builtE8 (f 1) (f 2) (f 3) (f 4) (f 5) (f 6) (f 7) (f 8))
 have hbB:∀ (W:World),(Instr.build 111 #[(0,.int .i64 (f' 1)),(1,.int .i64 (f' 2)),(2,.int .i64 (f' 3)),(3,.int .i64 (f' 4)),(4,.int .i64 (f' 5)),(5,.int .i64 (f' 6)),(6,.int .i64 (f' 7)),(7,.int .i64 (f' 8))]).run Try.prog W=.ok (.agg GB) W:=fun W=>by rw[hGB];exact run_build W _ _ _ (builtE8 (f' 1) (f' 2) (f' 3) (f' 4) (f' 5) (f' 6) (f' 7) (f' 8))
 obtain ⟨hz8,-⟩:=zero_of_info (P:=Try.prog) infoE8
 obtain ⟨Z8,hZ8⟩:∃ Z:Array Value,Z=(eightC (fun _=>0)).toArray:=⟨_,rfl⟩
 rw[← hZ8] at hz8
 have hGs:=Lib.hid (show (Try.prog.info? 111).map (·.size)=some GA.size by rw[hGA];exact szE8)
 have hGo:=Lib.hid (show GA.all (·.oneCell')=true by rw[hGA];simp[Value.oneCell'])
 have hGZ:=Lib.hid (show Z8.size=GA.size by rw[hGA,hZ8];rfl)
 rw[← hLA,← hLB] at hne hng
 rw[← hGA,← hGB] at he8 hg8
 rw[← hn,← hn'] at hsl
 rw[← hn] at hcA
 rw[← hn'] at hcB
 obtain ⟨W1,hW1⟩:∃ W1,W1=(w.alloc (.cells CA 47 (0,0))).alloc (.cells CB 47 (0,0)):=⟨_,rfl⟩
 have a1:=Lib.hid (show W1.heap[w.heap.size]?=some (.cells CA 47 (0,0)) by rw[hW1,heap_skip _ _ _ (by simp)];exact heap_alloc_last _ _)
 have k1:=Lib.hid (show W1.heap[w.heap.size+1]?=some (.cells CB 47 (0,0)) by rw[hW1];have:=heap_alloc_last (w.alloc (.cells CA 47 (0,0))) (.cells CB 47 (0,0));simpa using this)
 have b1:=Lib.hid (show Below w.heap.size w W1 by rw[hW1];exact below_alloc ((Below.refl _ _).alloc (Nat.le_refl _) _) _)
 rw[← hCA,← hCB]
 have qa:=(hcA.out W1 a1.out).1
 have qb:=(hcB.out W1 k1.out).1
 clear hCA hCB hLA hLB hGA hGB hZ8 hA hc hA' hc' hf hf' hp hp' hl hn hn' hr hr3 hx0
 have hcs:x0=false∨(x0=true∧r=false)∨(x0=true∧r=true∧e≠e')∨(x0=true∧r=true∧e=e'∧u≠u')∨(x0=true∧r=true∧e=e'∧u=u'∧ro≠ro')∨(x0=true∧r=true∧e=e'∧u=u'∧ro=ro'):=by
  cases x0
  ·exact .inl rfl
  cases r
  ·exact .inr (.inl ⟨rfl,rfl⟩)
  by_cases h1:e=e'
  ·by_cases h2:u=u'
   ·by_cases h3:ro=ro'
    ·exact .inr (.inr (.inr (.inr (.inr ⟨rfl,rfl,h1,h2,h3⟩))))
    exact .inr (.inr (.inr (.inr (.inl ⟨rfl,rfl,h1,h2,h3⟩))))
   exact .inr (.inr (.inr (.inl ⟨rfl,rfl,h1,h2⟩)))
  exact .inr (.inr (.inl ⟨rfl,rfl,h1⟩))

 rcases hcs with rfl | ⟨rfl,rfl⟩ | ⟨rfl,rfl,h1⟩ | ⟨rfl,rfl,rfl,h1⟩ | ⟨rfl,rfl,rfl,rfl,h1⟩ | ⟨rfl,rfl,rfl,rfl,rfl⟩
 ·skip
  go_enter Try.func31,Try.ntmps31
  go_upto_region 1 with fail
  rw[← hW1]
  clear hW1
  go_wp2_with (first
   |((with_reducible go_at_call 65);refine (hsl.out _ b1.out).mono ?_;rintro e_ w2 ⟨rfl,hd⟩;have b2:=Lib.hid (below_step b1.out hd.below);have a2:=Lib.hid (heap_below a1.out hd.below);have k2:=Lib.hid (heap_below k1.out hd.below);have rA:=Lib.hid (hrA.out _ a2.out);have rB:=Lib.hid (hrB.out _ k2.out);obtain ⟨-,p1,p2,p3,p4,p5,p6,p7,p8,p9,p10,p11⟩:=hcA.out _ a2.out;obtain ⟨-,s1,s2,s3,s4,s5,s6,s7,s8,s9,s10,s11⟩:=hcB.out _ k2.out;clear hd)
   |((with_reducible refine wpList_load_mid_on ?_ 44 _ rfl w.heap.size 9 rfl LA _ rA.out Try.underlying44 rfl hsA.out ?_);exact rfl)
   |((with_reducible refine wpList_load_mid_on ?_ 44 _ rfl (w.heap.size+1) 9 rfl LB _ rB.out Try.underlying44 rfl hsB.out ?_);exact rfl))
  go_ret
  exact ⟨by simp[sameV],b2.out⟩
 ·skip
  go_enter Try.func31,Try.ntmps31
  go_upto_region 1 with fail
  rw[← hW1]
  clear hW1
  go_wp2_with (first
   |((with_reducible go_at_call 65);refine (hsl.out _ b1.out).mono ?_;rintro e_ w2 ⟨rfl,hd⟩;have b2:=Lib.hid (below_step b1.out hd.below);have a2:=Lib.hid (heap_below a1.out hd.below);have k2:=Lib.hid (heap_below k1.out hd.below);have rA:=Lib.hid (hrA.out _ a2.out);have rB:=Lib.hid (hrB.out _ k2.out);obtain ⟨-,p1,p2,p3,p4,p5,p6,p7,p8,p9,p10,p11⟩:=hcA.out _ a2.out;obtain ⟨-,s1,s2,s3,s4,s5,s6,s7,s8,s9,s10,s11⟩:=hcB.out _ k2.out;clear hd)
   |((with_reducible refine wpList_load_mid_on ?_ 44 _ rfl w.heap.size 9 rfl LA _ rA.out Try.underlying44 rfl hsA.out ?_);exact rfl)
   |((with_reducible refine wpList_load_mid_on ?_ 44 _ rfl (w.heap.size+1) 9 rfl LB _ rB.out Try.underlying44 rfl hsB.out ?_);exact rfl))
  go_ret
  exact ⟨by simp[sameV],b2.out⟩
 ·skip
  have h2:(e=e')=False:=by simp[h1]
  have h3:(e == e')=false:=by simp[h1]
  have h4:(e != e')=true:=by simp[h1]
  go_enter Try.func31,Try.ntmps31
  go_upto_region 1 with fail
  rw[← hW1]
  clear hW1
  go_wp2_with (first
   |((with_reducible go_at_call 65);refine (hsl.out _ b1.out).mono ?_;rintro e_ w2 ⟨rfl,hd⟩;have b2:=Lib.hid (below_step b1.out hd.below);have a2:=Lib.hid (heap_below a1.out hd.below);have k2:=Lib.hid (heap_below k1.out hd.below);have rA:=Lib.hid (hrA.out _ a2.out);have rB:=Lib.hid (hrB.out _ k2.out);obtain ⟨-,p1,p2,p3,p4,p5,p6,p7,p8,p9,p10,p11⟩:=hcA.out _ a2.out;obtain ⟨-,s1,s2,s3,s4,s5,s6,s7,s8,s9,s10,s11⟩:=hcB.out _ k2.out;clear hd)
   |((with_reducible refine wpList_load_mid_on ?_ 44 _ rfl w.heap.size 9 rfl LA _ rA.out Try.underlying44 rfl hsA.out ?_);exact rfl)
   |((with_reducible refine wpList_load_mid_on ?_ 44 _ rfl (w.heap.size+1) 9 rfl LB _ rB.out Try.underlying44 rfl hsB.out ?_);exact rfl))
  go_ret
  exact ⟨by simp[sameV,h1],b2.out⟩
 ·skip
  have h2:(u=u')=False:=by simp[h1]
  have h3:(u == u')=false:=by simp[h1]
  have h4:(u != u')=true:=by simp[h1]
  go_enter Try.func31,Try.ntmps31
  go_upto_region 1 with fail
  rw[← hW1]
  clear hW1
  go_wp2_with (first
   |((with_reducible go_at_call 65);refine (hsl.out _ b1.out).mono ?_;rintro e_ w2 ⟨rfl,hd⟩;have b2:=Lib.hid (below_step b1.out hd.below);have a2:=Lib.hid (heap_below a1.out hd.below);have k2:=Lib.hid (heap_below k1.out hd.below);have rA:=Lib.hid (hrA.out _ a2.out);have rB:=Lib.hid (hrB.out _ k2.out);obtain ⟨-,p1,p2,p3,p4,p5,p6,p7,p8,p9,p10,p11⟩:=hcA.out _ a2.out;obtain ⟨-,s1,s2,s3,s4,s5,s6,s7,s8,s9,s10,s11⟩:=hcB.out _ k2.out;clear hd)
   |((with_reducible refine wpList_load_mid_on ?_ 44 _ rfl w.heap.size 9 rfl LA _ rA.out Try.underlying44 rfl hsA.out ?_);exact rfl)
   |((with_reducible refine wpList_load_mid_on ?_ 44 _ rfl (w.heap.size+1) 9 rfl LB _ rB.out Try.underlying44 rfl hsB.out ?_);exact rfl))
  go_ret
  exact ⟨by simp[sameV,h1],b2.out⟩
 ·skip
  have h1':ro' = !ro:=by revert h1;cases ro <;> cases ro' <;> simp
  subst h1'
  cases ro
  all_goals
   go_enter Try.func31,Try.ntmps31
   go_upto_region 1 with fail
   rw[← hW1]
   clear hW1
   go_wp2_with (first
    |((with_reducible go_at_call 65);refine (hsl.out _ b1.out).mono ?_;rintro e_ w2 ⟨rfl,hd⟩;have b2:=Lib.hid (below_step b1.out hd.below);have a2:=Lib.hid (heap_below a1.out hd.below);have k2:=Lib.hid (heap_below k1.out hd.below);have rA:=Lib.hid (hrA.out _ a2.out);have rB:=Lib.hid (hrB.out _ k2.out);obtain ⟨-,p1,p2,p3,p4,p5,p6,p7,p8,p9,p10,p11⟩:=hcA.out _ a2.out;obtain ⟨-,s1,s2,s3,s4,s5,s6,s7,s8,s9,s10,s11⟩:=hcB.out _ k2.out;clear hd)
    |((with_reducible refine wpList_load_mid_on ?_ 44 _ rfl w.heap.size 9 rfl LA _ rA.out Try.underlying44 rfl hsA.out ?_);exact rfl)
    |((with_reducible refine wpList_load_mid_on ?_ 44 _ rfl (w.heap.size+1) 9 rfl LB _ rB.out Try.underlying44 rfl hsB.out ?_);exact rfl))
   go_ret
   exact ⟨by simp[sameV],b2.out⟩
 go_enter Try.func31,Try.ntmps31
 go_upto_region 1 with fail
 rw[← hW1]
 clear hW1
 cases ro
 all_goals
  go_wp2_with (first
   |((with_reducible go_at_call 65);refine (hsl.out _ b1.out).mono ?_;rintro e_ w2 ⟨rfl,hd⟩;have b2:=Lib.hid (below_step b1.out hd.below);have a2:=Lib.hid (heap_below a1.out hd.below);have k2:=Lib.hid (heap_below k1.out hd.below);have rA:=Lib.hid (hrA.out _ a2.out);have rB:=Lib.hid (hrB.out _ k2.out);obtain ⟨-,p1,p2,p3,p4,p5,p6,p7,p8,p9,p10,p11⟩:=hcA.out _ a2.out;obtain ⟨-,s1,s2,s3,s4,s5,s6,s7,s8,s9,s10,s11⟩:=hcB.out _ k2.out;clear hd)
   |((with_reducible refine wpList_load_mid_on ?_ 44 _ rfl w.heap.size 9 rfl LA _ rA.out Try.underlying44 rfl hsA.out ?_);exact rfl)
   |((with_reducible refine wpList_load_mid_on ?_ 44 _ rfl (w.heap.size+1) 9 rfl LB _ rB.out Try.underlying44 rfl hsB.out ?_);exact rfl)
   |(with_reducible refine wpList_store_row rfl 111 _ _ rfl w2.heap.size GA rfl rfl 111 Z8 (heap_alloc_last _ _) hGs.out hGZ.out hGo.out ?_;have b12:=Lib.hid (below_setRow ((Below.refl w2.heap.size w2).alloc (Nat.le_refl _) (.cells Z8 111 (0,0))) (Nat.le_refl _) GA);have k20:=Lib.hid (setRow_heap (w2.alloc (.cells Z8 111 (0,0))) w2.heap.size Z8 GA 111 (0,0) (heap_alloc_last _ _));generalize (w2.alloc (.cells Z8 111 (0,0))).setRow w2.heap.size GA=w3 at *;have b3:=Lib.hid (below_step b2.out b12.out);obtain ⟨-,m1,m2,m3,m4,m5,m6,m7,m8,-⟩:=hcB.out _ (heap_below k2.out b12.out))
   |(with_reducible refine wpList_load_row rfl 111 _ rfl w2.heap.size rfl 111 GA (0,0) _ k20.out Try.underlying111 rfl hGs.out ?_))
  go_ret
  exact ⟨by simp[sameV],b3.out⟩
end Go.Proofs.Ytiogdomjmjiahaa.Own
