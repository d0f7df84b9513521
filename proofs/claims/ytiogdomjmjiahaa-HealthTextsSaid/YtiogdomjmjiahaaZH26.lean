/- HtL, pruned (slim.py). -/
import Derived.Test.YtiogdomjmjiahaaZH23
import Derived.Test.YtiogdomjmjiahaaZH25
namespace Go.Proofs.Ytiogdomjmjiahaa.Own
open Go.RowKit Go.Proofs.Ytiogdomjmjiahaa.Arr Go.Proofs.Ytiogdomjmjiahaa.QA Go.Proofs.Ytiogdomjmjiahaa.QB Go.Proofs.YtiogdomjmjiahaaW.PrintWords Go.Proofs.YtiogdomjmjiahaaW.PrintLast Go.Proofs.YtiogdomjmjiahaaW.PrintMore
set_option linter.unusedVariables false
set_option linter.unusedSimpArgs false
attribute [-go_sem] Instr.build
section
variable {P:Program} {ops:Array Oper} {rest:List Oper} {op:Oper} {a:Act} {w:World} {Q:Exit→Act→World→Prop}
theorem exec_eql (w:World) (bo:BinOp) (ty ty2:TypeId) (x y:Operand) (ho:op.op=.binOp bo ty x y ty2) (vx vy v:Value) (hx:a.eval x=vx) (hy:a.eval y=vy)
  (hbo:bo=.eql) (hg:(eqGuard .eql ty x y vx vy).run P w=.ok () w) (hr:(binOp .eql ty vx vy).run P w=.ok v w):(execOp a.eval op).run P w=.ok (.value v) w:=by
 subst hbo
 unfold execOp
 simp only[ho,hx,hy,Sem.run_bind,hg,hr,Result.andThen_ok,Sem.run_pure]
theorem exec_load_row (w:World) (ty:TypeId) (x:Operand) (ho:op.op=.load ty x) (g:Nat) (hx:a.eval x=.pointer (some ⟨g,0,none⟩)) (t:TypeId) (cs:Array Value) (fr:Nat × Nat) (d:TypeDesc) (hg:w.heap[g]?=some (.cells cs t fr))
  (hu:P.underlying ty=some d) (hd:(match d with | .struct _ | .array _ _=>true | _=>false)=true) (hi:(P.info? ty).map (·.size)=some cs.size):(execOp a.eval op).run P w=.ok (.value (.agg cs)) w:=by
 unfold execOp
 simp only[ho,hx,Instr.loadAt,Instr.sureAddr,Sem.run_bind,Sem.run_pure,Result.andThen_ok,run_loadVar_row w g t ty cs fr d hg hu hd hi]
end
set_option maxRecDepth 100000 in
theorem str_eql (S:ByteArray) (W:World):(binOp .eql 9 (.string S) (.string S)).run Try.prog W=.ok (.bool true) W:=by go_simp
set_option maxRecDepth 100000 in
theorem str_grd (S:ByteArray) (x y:Operand) (W:World):(eqGuard .eql 9 x y (.string S) (.string S)).run Try.prog W=.ok () W:=rfl
theorem bool_eql (b:Bool) (W:World):(binOp .eql 4 (.bool b) (.bool b)).run Try.prog W=.ok (.bool true) W:=by cases b <;> go_simp
set_option maxRecDepth 100000 in
theorem bool_grd (b:Bool) (x y:Operand) (W:World):(eqGuard .eql 4 x y (.bool b) (.bool b)).run Try.prog W=.ok () W:=rfl
set_option maxRecDepth 100000 in
theorem awake32_text:strOfNums (htL [] (fun _=>0) (fun _=>false) (fun _ _=>0) 0 0 false)={ data:=([101,112,111,99,104,32,48,32,99,111,117,110,116,101,114,32,48,10,98,108,111,99,107,115,32,48,32,98,97,100,32,48,32,103,111,110,101,32,48,32,108,101,97,107,105,110,103].append [32,48,32,99,108,101,97,110,32,48,32,104,101,108,100,32,48,32,100,105,114,116,121,32,48,32,102,114,101,101,32,48,32,115,112,97,114,101,32,48,10,101,114,97,115,101,115,10]).toArray }:=by decide +kernel
theorem awake32_num:numS (-12)={ data:=#[45,49,50] }:=by decide +kernel
theorem builtRp0:Try.prog.built 47 (#[]:Array (Nat × Value)).toList=some (repc none 0 0 (fun _=>0) (fun _=>false) (fun _ _=>0) 0 0 false):=by kernel_rfl
set_option maxHeartbeats 4000000 in
set_option maxRecDepth 100000 in
theorem awake32 (w:World):Calls Try.prog 24 #[] w fun e w'=>e=.returned (.bool true)∧Below w.heap.size w w':=by
 have hn:=Lib.hid (fun W=>health_Number.calls 80 (-12) (numS (-12)) W (number_eq (-12) (by decide) (by decide) 0))
 rw[awake32_num] at hn
 have ht:=Lib.hid (fun (W:World)=>htext_any none 0 [] (fun _=>0) (fun _=>false) (fun _ _=>0) 0 0 (by decide) (by decide) false W (fun _=>by decide) (by decide) (Kd.C_nil _ _) (fun _=>by simp) (fun _ _=>by decide))
 rw[awake32_text] at ht
 obtain ⟨Z,hZ⟩:∃ Z:Array Value,Z=repc none 0 0 (fun _=>0) (fun _=>false) (fun _ _=>0) 0 0 false:=⟨_,rfl⟩
 have hb0:∀ (W:World),(Instr.build 47 #[]).run Try.prog W=.ok (.agg Z) W:=fun W=>by rw[hZ];exact run_build W _ _ _ builtRp0
 have ht':=Lib.hid (fun (W:World)=>show Calls Try.prog 27 #[.agg Z] W _ from by rw[hZ];exact ht.out W)
 have b0:=Lib.hid (Below.refl w.heap.size w)
 clear hZ ht
 go_enter Try.func24,Try.ntmps24
 go_wp2_with (first
  |((with_reducible go_at_call 29);refine (hn.out _).mono ?_;rintro e w1 ⟨rfl,hb⟩;have b1:=Lib.hid (below_step b0.out hb);clear hb)
  |((with_reducible go_at_call 27);refine (ht'.out _).mono ?_;rintro e w2 ⟨rfl,hb⟩;have b2:=Lib.hid (below_step b1.out hb);clear hb))
 go_ret
 exact ⟨rfl,b2.out⟩
def sameL (x0 r:Bool) (f f':Nat→Int) (e e' u u':Int) (ro ro':Bool):Bool:=x0 && (r && (decide (f 1=f' 1) && (decide (f 2=f' 2) && (decide (f 3=f' 3) && (decide (f 4=f' 4) && (decide (f 5=f' 5) && (decide (f 6=f' 6) && (decide (f 7=f' 7) && (decide (f 8=f' 8) && (decide (e=e') && (decide (u=u') && (decide (ro=ro')))))))))))))
open Classical in
theorem sameV_eq (x0 r:Bool) (f f':Nat→Int) (e e' u u':Int) (ro ro':Bool):sameV x0 r e e' u u' ro ro' (decide (eightL f=eightL f'))=sameL x0 r f f' e e' u u' ro ro':=by
 apply Bool.eq_iff_iff.mpr
 unfold sameV sameL
 simp only[Bool.and_eq_true,decide_eq_true_eq,eightL_iff]
 constructor
 ·rintro ⟨a,b,c,d,e,f1,f2,f3,f4,f5,f6,f7,f8⟩
  exact ⟨a,b,f1,f2,f3,f4,f5,f6,f7,f8,c,d,e⟩
 rintro ⟨a,b,f1,f2,f3,f4,f5,f6,f7,f8,c,d,e⟩
 exact ⟨a,b,c,d,e,f1,f2,f3,f4,f5,f6,f7,f8⟩
theorem first_diff (x0 r:Bool) (f f':Nat→Int) (e e' u u':Int) (ro ro':Bool):x0=false∨x0=true∧r=false∨(x0=true∧r=true∧f 1≠f' 1)∨(x0=true∧r=true∧f 1=f' 1∧f 2≠f' 2)∨(x0=true∧r=true∧f 1=f' 1∧f 2=f' 2∧f 3≠f' 3)∨(x0=true∧r=true∧f 1=f' 1∧f 2=f' 2∧f 3=f' 3∧f 4≠f' 4)∨(x0=true∧r=true∧f 1=f' 1∧f 2=f' 2∧f 3=f' 3∧f 4=f' 4∧f 5≠f' 5)∨(x0=true∧r=true∧f 1=f' 1∧f 2=f' 2∧f 3=f' 3∧f 4=f' 4∧f 5=f' 5∧f 6≠f' 6)∨(x0=true∧r=true∧f 1=f' 1∧f 2=f' 2∧f 3=f' 3∧f 4=f' 4∧f 5=f' 5∧f 6=f' 6∧f 7≠f' 7)∨(x0=true∧r=true∧f 1=f' 1∧f 2=f' 2∧f 3=f' 3∧f 4=f' 4∧f 5=f' 5∧f 6=f' 6∧f 7=f' 7∧f 8≠f' 8)∨(x0=true∧r=true∧f 1=f' 1∧f 2=f' 2∧f 3=f' 3∧f 4=f' 4∧f 5=f' 5∧f 6=f' 6∧f 7=f' 7∧f 8=f' 8∧e≠e')∨(x0=true∧r=true∧f 1=f' 1∧f 2=f' 2∧f 3=f' 3∧f 4=f' 4∧f 5=f' 5∧f 6=f' 6∧f 7=f' 7∧f 8=f' 8∧e=e'∧u≠u')∨(x0=true∧r=true∧f 1=f' 1∧f 2=f' 2∧f 3=f' 3∧f 4=f' 4∧f 5=f' 5∧f 6=f' 6∧f 7=f' 7∧f 8=f' 8∧e=e'∧u=u'∧ro≠ro')∨(x0=true∧r=true∧f 1=f' 1∧f 2=f' 2∧f 3=f' 3∧f 4=f' 4∧f 5=f' 5∧f 6=f' 6∧f 7=f' 7∧f 8=f' 8∧e=e'∧u=u'∧ro=ro'):=by
 cases x0
 ·exact .inl rfl
 refine .inr ?_
 cases r
 ·exact .inl ⟨rfl,rfl⟩
 refine .inr ?_
 by_cases h0:f 1=f' 1
 rotate_left
 ·exact .inl ⟨rfl,rfl,h0⟩
 refine .inr ?_
 by_cases h1:f 2=f' 2
 rotate_left
 ·exact .inl ⟨rfl,rfl,h0,h1⟩
 refine .inr ?_
 by_cases h2:f 3=f' 3
 rotate_left
 ·exact .inl ⟨rfl,rfl,h0,h1,h2⟩
 refine .inr ?_
 by_cases h3:f 4=f' 4
 rotate_left
 ·exact .inl ⟨rfl,rfl,h0,h1,h2,h3⟩
 refine .inr ?_
 by_cases h4:f 5=f' 5
 rotate_left
 ·exact .inl ⟨rfl,rfl,h0,h1,h2,h3,h4⟩
 refine .inr ?_
 by_cases h5:f 6=f' 6
 rotate_left
 ·exact .inl ⟨rfl,rfl,h0,h1,h2,h3,h4,h5⟩
 refine .inr ?_
 by_cases h6:f 7=f' 7
 rotate_left
 ·exact .inl ⟨rfl,rfl,h0,h1,h2,h3,h4,h5,h6⟩
 refine .inr ?_
 by_cases h7:f 8=f' 8
 rotate_left
 ·exact .inl ⟨rfl,rfl,h0,h1,h2,h3,h4,h5,h6,h7⟩
 refine .inr ?_
 by_cases h8:e=e'
 rotate_left
 ·exact .inl ⟨rfl,rfl,h0,h1,h2,h3,h4,h5,h6,h7,h8⟩
 refine .inr ?_
 by_cases h9:u=u'
 rotate_left
 ·exact .inl ⟨rfl,rfl,h0,h1,h2,h3,h4,h5,h6,h7,h8,h9⟩
 refine .inr ?_
 by_cases h10:ro=ro'
 rotate_left
 ·exact .inl ⟨rfl,rfl,h0,h1,h2,h3,h4,h5,h6,h7,h8,h9,h10⟩
 exact .inr ⟨rfl,rfl,h0,h1,h2,h3,h4,h5,h6,h7,h8,h9,h10⟩
theorem szSq4:(Try.prog.info? 49).map (·.size)=some 24:=by kernel_rfl
open Classical in
set_option maxHeartbeats 32000000 in
set_option maxRecDepth 100000 in
theorem healthTexts_law (A A':Option Addr) (c c':Nat) (E E':List Int) (f f':Nat→Int) (b b':Nat→Bool) (p p':Nat→Nat→Int) (e e' u u':Nat) (ro ro':Bool) (n:Int) (w:World) (hf:∀ k,inI (f k)) (hf':∀ k,inI (f' k)) (hp:∀ j k,inI (p j k)) (hp':∀ j k,inI (p' j k))
  (he:e<18446744073709551616) (hu:u<18446744073709551616) (hn:inI n) (hl:E.length≤100) (hl':E'.length≤100) (hEr:∀ k,inI (E.getD k 0))
  (hA:Kd.C (Kd.int .i64) w A E.length E) (hc:E.length≤c) (hA':Kd.C (Kd.int .i64) w A' E'.length E') (hc':E'.length≤c') :
  Calls Try.prog 6 #[.agg (repc A E.length c f b p e u ro),.agg (repc A' E'.length c' f' b' p' e' u' ro'),.int .i64 n] w fun e_ w'=>e_=.returned (.bool true)∧Below w.heap.size w w':=by
 have hawk:=Lib.hid awake32
 have heq:=fun (W:World)=>spaces_eql b b' p p' hp hp' W
 have hgd:=fun (x y:Operand) (W:World)=>run_eqGuard_agg (P:=Try.prog) W .eql 49 x y (spaces b p).toArray (spaces b' p').toArray (by kernel_rfl)
 obtain ⟨x0,hx0⟩:∃ x:Bool,x=decide (E=E'):=⟨_,rfl⟩
 obtain ⟨r,hr⟩:∃ x:Bool,x=decide (spLits b p=spLits b' p'):=⟨_,rfl⟩
 rw[← hr] at heq
 have hsi:=Lib.hid (fun (W:World) (hW:Below w.heap.size w W)=>nepentheref01_SameInts.calls (0+E.length+1) A c E A' c' E' x0 W (Kd.C_below hA hW) hc (Kd.C_below hA' hW) hc' (by rw[hx0];exact samInts E E' (by omega) 0))
 have hsm:=Lib.hid (fun (W:World) (hW:Below w.heap.size w W)=>same32_any A A' c c' E E' f f' b b' p p' e e' u u' ro ro' W hf hf' hp hp' (by omega) (Kd.C_below hA hW) hc (Kd.C_below hA' hW) hc')
 obtain ⟨sB,hsB⟩:∃ x:Bool,x=sameL x0 r f f' e e' u u' ro ro':=⟨_,rfl⟩
 rw[← hx0,← hr,sameV_eq,← hsB] at hsm
 obtain ⟨T,hT⟩:∃ T,T=strOfNums (htL E f b p e u ro):=⟨_,rfl⟩
 have htx:=Lib.hid (fun (W:World) (hW:Below w.heap.size w W)=>htext_any A c E f b p e u he hu ro W hf (by omega) (Kd.C_below hA hW) hEr hp)
 have hrt:=Lib.hid (fun (W:World) (hW:Below w.heap.size w W)=>rtext_any A c E f b p e u he hu ro W hf (by omega) (Kd.C_below hA hW) hEr hp)
 rw[← hT] at htx hrt
 obtain ⟨NS,hNS⟩:∃ T,T=numS n:=⟨_,rfl⟩
 have hnu:=Lib.hid (fun W=>health_Number.calls 80 n (numS n) W (number_eq n hn.1 hn.2 0))
 have hrn:=Lib.hid (fun W=>nepentheref32_Number.calls 30 n (numS n) W (refNumber_eq n hn.1 hn.2 0))
 rw[← hNS] at hnu hrn
 have hofA:=Lib.hid (fun W=>of32_any A E.length c f b p e u ro W)
 have hofB:=Lib.hid (fun W=>of32_any A' E'.length c' f' b' p' e' u' ro' W)
 obtain ⟨CA,hCA⟩:∃ CA,CA=repc A E.length c f b p e u ro:=⟨_,rfl⟩
 obtain ⟨CB,hCB⟩:∃ CA,CA=repc A' E'.length c' f' b' p' e' u' ro':=⟨_,rfl⟩
 obtain ⟨LA,hLA⟩:∃ L,L=spaces b p:=⟨_,rfl⟩
 obtain ⟨LB,hLB⟩:∃ L,L=spaces b' p':=⟨_,rfl⟩
 obtain ⟨k1,hk1⟩:∃ n,n=E.length:=⟨_,rfl⟩
 obtain ⟨k2,hk2⟩:∃ n,n=E'.length:=⟨_,rfl⟩
 have hcA:=Lib.hid (fun (W:World) (g t:Nat) (h:W.heap[g]?=some (.cells CA t (0,0)))=>rep_cells (by rw[hCA] at h;exact h))
 have hcB:=Lib.hid (fun (W:World) (g t:Nat) (h:W.heap[g]?=some (.cells CB t (0,0)))=>rep_cells (by rw[hCB] at h;exact h))
 have hrA:=Lib.hid (fun (W:World) (g t:Nat) (h:W.heap[g]?=some (.cells CA t (0,0)))=>show W.rangeAt g 9 LA by rw[hLA];exact rep_spaces (by rw[hCA] at h;exact h))
 have hrB:=Lib.hid (fun (W:World) (g t:Nat) (h:W.heap[g]?=some (.cells CB t (0,0)))=>show W.rangeAt g 9 LB by rw[hLB];exact rep_spaces (by rw[hCB] at h;exact h))
 have hsA:=Lib.hid (show (Try.prog.info? 49).map (·.size)=some LA.length by rw[hLA];exact szSq4)
 have hsB':=Lib.hid (show (Try.prog.info? 49).map (·.size)=some LB.length by rw[hLB];exact szSq4)
 obtain ⟨hz,-⟩:=zero_of_info (P:=Try.prog) info51
 obtain ⟨Z,hZ⟩:∃ Z:Array Value,Z=repc none 0 0 (fun _=>0) (fun _=>false) (fun _ _=>0) 0 0 false:=⟨_,rfl⟩
 rw[← hZ] at hz
 have hpA:=Lib.hid (show (Try.prog.info? 47).map (·.size)=some CA.size by rw[hCA];exact szRp)
 have hpB:=Lib.hid (show (Try.prog.info? 47).map (·.size)=some CB.size by rw[hCB];exact szRp)
 have hCAs:=Lib.hid (show (Try.prog.info? 51).map (·.size)=some CA.size by rw[hCA];exact szRq)
 have hCBs:=Lib.hid (show (Try.prog.info? 51).map (·.size)=some CB.size by rw[hCB];exact szRq)
 have hCAo:=Lib.hid (show CA.all (·.oneCell')=true by rw[hCA];exact repc_one _ _ _ _ _ _ _ _ _)
 have hCBo:=Lib.hid (show CB.all (·.oneCell')=true by rw[hCB];exact repc_one _ _ _ _ _ _ _ _ _)
 have hCAZ:=Lib.hid (show Z.size=CA.size by rw[hCA,hZ];rfl)
 have hCBZ:=Lib.hid (show Z.size=CB.size by rw[hCB,hZ];rfl)
 rw[← hLA,← hLB] at heq hgd
 rw[← hCA] at hsm htx hrt hofA
 rw[← hCB] at hsm hofB
 rw[← hk1] at hcA hsi
 rw[← hk2] at hcB hsi
 have hl1:(k1:Int)≤100:=by omega
 have hl2:(k2:Int)≤100:=by omega
 obtain ⟨W1,hW1⟩:∃ W1,W1=(w.alloc (.cells CA 47 (0,0))).alloc (.cells CB 47 (0,0)):=⟨_,rfl⟩
 have a1:=Lib.hid (show W1.heap[w.heap.size]?=some (.cells CA 47 (0,0)) by rw[hW1,heap_skip _ _ _ (by simp)];exact heap_alloc_last _ _)
 have c1:=Lib.hid (show W1.heap[w.heap.size+1]?=some (.cells CB 47 (0,0)) by rw[hW1];have:=heap_alloc_last (w.alloc (.cells CA 47 (0,0))) (.cells CB 47 (0,0));simpa using this)
 have b1:=Lib.hid (show Below w.heap.size w W1 by rw[hW1];exact below_alloc ((Below.refl _ _).alloc (Nat.le_refl _) _) _)
 have hdf:=first_diff x0 r f f' e e' u u' ro ro'
 have hsB1:=Lib.hid hsB
 rw[← hCA,← hCB]
 have qa:=(hcA.out W1 _ _ a1.out).1
 have qb:=(hcB.out W1 _ _ c1.out).1
 clear hsB hCA hCB hLA hLB hZ hA hc hA' hc' hf hf' hp hp' hl hl' hk1 hk2 hr hx0 hT hNS he hu hn hEr
 go_enter Try.func6,Try.ntmps6
 go_upto_region 1 with fail
 rw[← hW1]
 clear hW1
 go_upto_region 5 with (first
  |((with_reducible refine wpList_load_row_on ?_ 47 _ rfl w.heap.size rfl 47 CA (0,0) _ a1.out Try.underlying47 rfl hpA.out ?_);exact rfl)
  |((with_reducible refine wpList_load_row_on ?_ 47 _ rfl (w.heap.size+1) rfl 47 CB (0,0) _ c3.out Try.underlying47 rfl hpB.out ?_);exact rfl)
  |((with_reducible go_at_call 25);with_reducible refine (hofA.out _).mono ?_;rintro e_ w2 ⟨rfl,hb⟩;have b2:=Lib.hid (below_step b1.out hb);have a2:=Lib.hid (heap_below a1.out hb);have c2:=Lib.hid (heap_below c1.out hb);clear hb)
  |(with_reducible refine wpList_store_row rfl 51 _ _ rfl w2.heap.size CA rfl rfl 51 Z (heap_alloc_last _ _) hCAs.out hCAZ.out hCAo.out ?_;have bx3:=Lib.hid (below_setRow ((Below.refl w2.heap.size w2).alloc (Nat.le_refl _) (.cells Z 51 (0,0))) (Nat.le_refl _) CA);have x3:=Lib.hid (setRow_heap (w2.alloc (.cells Z 51 (0,0))) w2.heap.size Z CA 51 (0,0) (heap_alloc_last _ _));generalize (w2.alloc (.cells Z 51 (0,0))).setRow w2.heap.size CA=w3 at *;have b3:=Lib.hid (below_step b2.out bx3.out);have a3:=Lib.hid (heap_below a2.out bx3.out);have c3:=Lib.hid (heap_below c2.out bx3.out))
  |((with_reducible go_at_call 25);with_reducible refine (hofB.out _).mono ?_;rintro e_ w4 ⟨rfl,hb⟩;have b4:=Lib.hid (below_step b3.out hb);have a4:=Lib.hid (heap_below a3.out hb);have c4:=Lib.hid (heap_below c3.out hb);have x4:=Lib.hid (heap_below x3.out hb);clear hb)
  |(with_reducible refine wpList_store_row rfl 51 _ _ rfl w4.heap.size CB rfl rfl 51 Z (heap_alloc_last _ _) hCBs.out hCBZ.out hCBo.out ?_;have bx5:=Lib.hid (below_setRow ((Below.refl w4.heap.size w4).alloc (Nat.le_refl _) (.cells Z 51 (0,0))) (Nat.le_refl _) CB);have y5:=Lib.hid (setRow_heap (w4.alloc (.cells Z 51 (0,0))) w4.heap.size Z CB 51 (0,0) (heap_alloc_last _ _));generalize (w4.alloc (.cells Z 51 (0,0))).setRow w4.heap.size CB=w5 at *;have b5:=Lib.hid (below_step b4.out bx5.out);have a5:=Lib.hid (heap_below a4.out bx5.out);have c5:=Lib.hid (heap_below c4.out bx5.out);have x5:=Lib.hid (heap_below x4.out bx5.out)))
 clear qa qb
 have qa:=(hcA.out _ _ _ a5.out).1
 have qb:=(hcB.out _ _ _ c5.out).1
 clear a1 a2 a3 a4 b1 b2 b3 b4 c1 c2 c3 c4 x3 x4 bx3 bx5
 dsimp only[Act.put,List.append]
 go_cut [9] (fun v w'=>v=.bool sB∧Below w5.heap.size w5 w')
 case first=>
  clear hsm htx hrt hnu hrn hofA hofB hawk
  rcases hdf with rfl | ⟨rfl,rfl⟩ | ⟨rfl,rfl,h0⟩ | ⟨rfl,rfl,h0,h1⟩ | ⟨rfl,rfl,h0,h1,h2⟩ | ⟨rfl,rfl,h0,h1,h2,h3⟩ | ⟨rfl,rfl,h0,h1,h2,h3,h4⟩ | ⟨rfl,rfl,h0,h1,h2,h3,h4,h5⟩ | ⟨rfl,rfl,h0,h1,h2,h3,h4,h5,h6⟩ | ⟨rfl,rfl,h0,h1,h2,h3,h4,h5,h6,h7⟩ | ⟨rfl,rfl,h0,h1,h2,h3,h4,h5,h6,h7,h8⟩ | ⟨rfl,rfl,h0,h1,h2,h3,h4,h5,h6,h7,h8,h9⟩ | ⟨rfl,rfl,h0,h1,h2,h3,h4,h5,h6,h7,h8,h9,h10⟩ | ⟨rfl,rfl,h0,h1,h2,h3,h4,h5,h6,h7,h8,h9,h10⟩
  ·skip
   go_wp2_with (first
    |((with_reducible go_at_call 26);refine (hsi.out _ b5.out).mono ?_;rintro e_ w6 ⟨rfl,hd⟩;have d6:=Lib.hid hd.below;have x6:=Lib.hid (heap_below x5.out hd.below);have y6:=Lib.hid (heap_below y5.out hd.below);have rA:=Lib.hid (hrA.out _ _ _ x6.out);have rB:=Lib.hid (hrB.out _ _ _ y6.out);obtain ⟨-,p1,p2,p3,p4,p5,p6,p7,p8,p9,p10,p11⟩:=hcA.out _ _ _ x6.out;obtain ⟨-,s1,s2,s3,s4,s5,s6,s7,s8,s9,s10,s11⟩:=hcB.out _ _ _ y6.out;clear hd)
    |((with_reducible refine wpList_load_mid_on ?_ 49 _ rfl w2.heap.size 9 rfl LA _ rA.out Try.underlying49 rfl hsA.out ?_);exact rfl)
    |((with_reducible refine wpList_load_mid_on ?_ 49 _ rfl w4.heap.size 9 rfl LB _ rB.out Try.underlying49 rfl hsB'.out ?_);exact rfl))
   go_meet
   exact ⟨by rw[hsB1.out];simp[sameL],d6.out⟩
  ·skip
   go_wp2_with (first
    |((with_reducible go_at_call 26);refine (hsi.out _ b5.out).mono ?_;rintro e_ w6 ⟨rfl,hd⟩;have d6:=Lib.hid hd.below;have x6:=Lib.hid (heap_below x5.out hd.below);have y6:=Lib.hid (heap_below y5.out hd.below);have rA:=Lib.hid (hrA.out _ _ _ x6.out);have rB:=Lib.hid (hrB.out _ _ _ y6.out);obtain ⟨-,p1,p2,p3,p4,p5,p6,p7,p8,p9,p10,p11⟩:=hcA.out _ _ _ x6.out;obtain ⟨-,s1,s2,s3,s4,s5,s6,s7,s8,s9,s10,s11⟩:=hcB.out _ _ _ y6.out;clear hd)
    |((with_reducible refine wpList_load_mid_on ?_ 49 _ rfl w2.heap.size 9 rfl LA _ rA.out Try.underlying49 rfl hsA.out ?_);exact rfl)
    |((with_reducible refine wpList_load_mid_on ?_ 49 _ rfl w4.heap.size 9 rfl LB _ rB.out Try.underlying49 rfl hsB'.out ?_);exact rfl))
   go_meet
   exact ⟨by rw[hsB1.out];simp[sameL],d6.out⟩
  ·skip
   have z1:(f 1=f' 1)=False:=by simp only[eq_iff_iff,iff_false];exact h0
   have z2:(f 1 == f' 1)=false:=beq_false_of_ne h0
   go_wp2_with (first
    |((with_reducible go_at_call 26);refine (hsi.out _ b5.out).mono ?_;rintro e_ w6 ⟨rfl,hd⟩;have d6:=Lib.hid hd.below;have x6:=Lib.hid (heap_below x5.out hd.below);have y6:=Lib.hid (heap_below y5.out hd.below);have rA:=Lib.hid (hrA.out _ _ _ x6.out);have rB:=Lib.hid (hrB.out _ _ _ y6.out);obtain ⟨-,p1,p2,p3,p4,p5,p6,p7,p8,p9,p10,p11⟩:=hcA.out _ _ _ x6.out;obtain ⟨-,s1,s2,s3,s4,s5,s6,s7,s8,s9,s10,s11⟩:=hcB.out _ _ _ y6.out;clear hd)
    |((with_reducible refine wpList_load_mid_on ?_ 49 _ rfl w2.heap.size 9 rfl LA _ rA.out Try.underlying49 rfl hsA.out ?_);exact rfl)
    |((with_reducible refine wpList_load_mid_on ?_ 49 _ rfl w4.heap.size 9 rfl LB _ rB.out Try.underlying49 rfl hsB'.out ?_);exact rfl))
   go_meet
   exact ⟨by rw[hsB1.out];simp[sameL,h0],d6.out⟩
  ·skip
   have z1:(f 2=f' 2)=False:=by simp only[eq_iff_iff,iff_false];exact h1
   have z2:(f 2 == f' 2)=false:=beq_false_of_ne h1
   go_wp2_with (first
    |((with_reducible go_at_call 26);refine (hsi.out _ b5.out).mono ?_;rintro e_ w6 ⟨rfl,hd⟩;have d6:=Lib.hid hd.below;have x6:=Lib.hid (heap_below x5.out hd.below);have y6:=Lib.hid (heap_below y5.out hd.below);have rA:=Lib.hid (hrA.out _ _ _ x6.out);have rB:=Lib.hid (hrB.out _ _ _ y6.out);obtain ⟨-,p1,p2,p3,p4,p5,p6,p7,p8,p9,p10,p11⟩:=hcA.out _ _ _ x6.out;obtain ⟨-,s1,s2,s3,s4,s5,s6,s7,s8,s9,s10,s11⟩:=hcB.out _ _ _ y6.out;rw[h0] at p1;clear hd)
    |((with_reducible refine wpList_load_mid_on ?_ 49 _ rfl w2.heap.size 9 rfl LA _ rA.out Try.underlying49 rfl hsA.out ?_);exact rfl)
    |((with_reducible refine wpList_load_mid_on ?_ 49 _ rfl w4.heap.size 9 rfl LB _ rB.out Try.underlying49 rfl hsB'.out ?_);exact rfl))
   go_meet
   exact ⟨by rw[hsB1.out];simp[sameL,h0,h1],d6.out⟩
  ·skip
   have z1:(f 3=f' 3)=False:=by simp only[eq_iff_iff,iff_false];exact h2
   have z2:(f 3 == f' 3)=false:=beq_false_of_ne h2
   go_wp2_with (first
    |((with_reducible go_at_call 26);refine (hsi.out _ b5.out).mono ?_;rintro e_ w6 ⟨rfl,hd⟩;have d6:=Lib.hid hd.below;have x6:=Lib.hid (heap_below x5.out hd.below);have y6:=Lib.hid (heap_below y5.out hd.below);have rA:=Lib.hid (hrA.out _ _ _ x6.out);have rB:=Lib.hid (hrB.out _ _ _ y6.out);obtain ⟨-,p1,p2,p3,p4,p5,p6,p7,p8,p9,p10,p11⟩:=hcA.out _ _ _ x6.out;obtain ⟨-,s1,s2,s3,s4,s5,s6,s7,s8,s9,s10,s11⟩:=hcB.out _ _ _ y6.out;rw[h0] at p1;rw[h1] at p2;clear hd)
    |((with_reducible refine wpList_load_mid_on ?_ 49 _ rfl w2.heap.size 9 rfl LA _ rA.out Try.underlying49 rfl hsA.out ?_);exact rfl)
    |((with_reducible refine wpList_load_mid_on ?_ 49 _ rfl w4.heap.size 9 rfl LB _ rB.out Try.underlying49 rfl hsB'.out ?_);exact rfl))
   go_meet
   exact ⟨by rw[hsB1.out];simp[sameL,h0,h1,h2],d6.out⟩
  ·skip
   have z1:(f 4=f' 4)=False:=by simp only[eq_iff_iff,iff_false];exact h3
   have z2:(f 4 == f' 4)=false:=beq_false_of_ne h3
   go_wp2_with (first
    |((with_reducible go_at_call 26);refine (hsi.out _ b5.out).mono ?_;rintro e_ w6 ⟨rfl,hd⟩;have d6:=Lib.hid hd.below;have x6:=Lib.hid (heap_below x5.out hd.below);have y6:=Lib.hid (heap_below y5.out hd.below);have rA:=Lib.hid (hrA.out _ _ _ x6.out);have rB:=Lib.hid (hrB.out _ _ _ y6.out);obtain ⟨-,p1,p2,p3,p4,p5,p6,p7,p8,p9,p10,p11⟩:=hcA.out _ _ _ x6.out;obtain ⟨-,s1,s2,s3,s4,s5,s6,s7,s8,s9,s10,s11⟩:=hcB.out _ _ _ y6.out;rw[h0] at p1;rw[h1] at p2;rw[h2] at p3;clear hd)
    |((with_reducible refine wpList_load_mid_on ?_ 49 _ rfl w2.heap.size 9 rfl LA _ rA.out Try.underlying49 rfl hsA.out ?_);exact rfl)
    |((with_reducible refine wpList_load_mid_on ?_ 49 _ rfl w4.heap.size 9 rfl LB _ rB.out Try.underlying49 rfl hsB'.out ?_);exact rfl))
   go_meet
   exact ⟨by rw[hsB1.out];simp[sameL,h0,h1,h2,h3],d6.out⟩
  ·skip
   have z1:(f 5=f' 5)=False:=by simp only[eq_iff_iff,iff_false];exact h4
   have z2:(f 5 == f' 5)=false:=beq_false_of_ne h4
   go_wp2_with (first
    |((with_reducible go_at_call 26);refine (hsi.out _ b5.out).mono ?_;rintro e_ w6 ⟨rfl,hd⟩;have d6:=Lib.hid hd.below;have x6:=Lib.hid (heap_below x5.out hd.below);have y6:=Lib.hid (heap_below y5.out hd.below);have rA:=Lib.hid (hrA.out _ _ _ x6.out);have rB:=Lib.hid (hrB.out _ _ _ y6.out);obtain ⟨-,p1,p2,p3,p4,p5,p6,p7,p8,p9,p10,p11⟩:=hcA.out _ _ _ x6.out;obtain ⟨-,s1,s2,s3,s4,s5,s6,s7,s8,s9,s10,s11⟩:=hcB.out _ _ _ y6.out;rw[h0] at p1;rw[h1] at p2;rw[h2] at p3;rw[h3] at p4;clear hd)
    |((with_reducible refine wpList_load_mid_on ?_ 49 _ rfl w2.heap.size 9 rfl LA _ rA.out Try.underlying49 rfl hsA.out ?_);exact rfl)
    |((with_reducible refine wpList_load_mid_on ?_ 49 _ rfl w4.heap.size 9 rfl LB _ rB.out Try.underlying49 rfl hsB'.out ?_);exact rfl))
   go_meet
   exact ⟨by rw[hsB1.out];simp[sameL,h0,h1,h2,h3,h4],d6.out⟩
  ·skip
   have z1:(f 6=f' 6)=False:=by simp only[eq_iff_iff,iff_false];exact h5
   have z2:(f 6 == f' 6)=false:=beq_false_of_ne h5
   go_wp2_with (first
    |((with_reducible go_at_call 26);refine (hsi.out _ b5.out).mono ?_;rintro e_ w6 ⟨rfl,hd⟩;have d6:=Lib.hid hd.below;have x6:=Lib.hid (heap_below x5.out hd.below);have y6:=Lib.hid (heap_below y5.out hd.below);have rA:=Lib.hid (hrA.out _ _ _ x6.out);have rB:=Lib.hid (hrB.out _ _ _ y6.out);obtain ⟨-,p1,p2,p3,p4,p5,p6,p7,p8,p9,p10,p11⟩:=hcA.out _ _ _ x6.out;obtain ⟨-,s1,s2,s3,s4,s5,s6,s7,s8,s9,s10,s11⟩:=hcB.out _ _ _ y6.out;rw[h0] at p1;rw[h1] at p2;rw[h2] at p3;rw[h3] at p4;rw[h4] at p5;clear hd)
    |((with_reducible refine wpList_load_mid_on ?_ 49 _ rfl w2.heap.size 9 rfl LA _ rA.out Try.underlying49 rfl hsA.out ?_);exact rfl)
    |((with_reducible refine wpList_load_mid_on ?_ 49 _ rfl w4.heap.size 9 rfl LB _ rB.out Try.underlying49 rfl hsB'.out ?_);exact rfl))
   go_meet
   exact ⟨by rw[hsB1.out];simp[sameL,h0,h1,h2,h3,h4,h5],d6.out⟩
  ·skip
   have z1:(f 7=f' 7)=False:=by simp only[eq_iff_iff,iff_false];exact h6
   have z2:(f 7 == f' 7)=false:=beq_false_of_ne h6
   go_wp2_with (first
    |((with_reducible go_at_call 26);refine (hsi.out _ b5.out).mono ?_;rintro e_ w6 ⟨rfl,hd⟩;have d6:=Lib.hid hd.below;have x6:=Lib.hid (heap_below x5.out hd.below);have y6:=Lib.hid (heap_below y5.out hd.below);have rA:=Lib.hid (hrA.out _ _ _ x6.out);have rB:=Lib.hid (hrB.out _ _ _ y6.out);obtain ⟨-,p1,p2,p3,p4,p5,p6,p7,p8,p9,p10,p11⟩:=hcA.out _ _ _ x6.out;obtain ⟨-,s1,s2,s3,s4,s5,s6,s7,s8,s9,s10,s11⟩:=hcB.out _ _ _ y6.out;rw[h0] at p1;rw[h1] at p2;rw[h2] at p3;rw[h3] at p4;rw[h4] at p5;rw[h5] at p6;clear hd)
    |((with_reducible refine wpList_load_mid_on ?_ 49 _ rfl w2.heap.size 9 rfl LA _ rA.out Try.underlying49 rfl hsA.out ?_);exact rfl)
    |((with_reducible refine wpList_load_mid_on ?_ 49 _ rfl w4.heap.size 9 rfl LB _ rB.out Try.underlying49 rfl hsB'.out ?_);exact rfl))
   go_meet
   exact ⟨by rw[hsB1.out];simp[sameL,h0,h1,h2,h3,h4,h5,h6],d6.out⟩
  ·skip
   have z1:(f 8=f' 8)=False:=by simp only[eq_iff_iff,iff_false];exact h7
   have z2:(f 8 == f' 8)=false:=beq_false_of_ne h7
   go_wp2_with (first
    |((with_reducible go_at_call 26);refine (hsi.out _ b5.out).mono ?_;rintro e_ w6 ⟨rfl,hd⟩;have d6:=Lib.hid hd.below;have x6:=Lib.hid (heap_below x5.out hd.below);have y6:=Lib.hid (heap_below y5.out hd.below);have rA:=Lib.hid (hrA.out _ _ _ x6.out);have rB:=Lib.hid (hrB.out _ _ _ y6.out);obtain ⟨-,p1,p2,p3,p4,p5,p6,p7,p8,p9,p10,p11⟩:=hcA.out _ _ _ x6.out;obtain ⟨-,s1,s2,s3,s4,s5,s6,s7,s8,s9,s10,s11⟩:=hcB.out _ _ _ y6.out;rw[h0] at p1;rw[h1] at p2;rw[h2] at p3;rw[h3] at p4;rw[h4] at p5;rw[h5] at p6;rw[h6] at p7;clear hd)
    |((with_reducible refine wpList_load_mid_on ?_ 49 _ rfl w2.heap.size 9 rfl LA _ rA.out Try.underlying49 rfl hsA.out ?_);exact rfl)
    |((with_reducible refine wpList_load_mid_on ?_ 49 _ rfl w4.heap.size 9 rfl LB _ rB.out Try.underlying49 rfl hsB'.out ?_);exact rfl))
   go_meet
   exact ⟨by rw[hsB1.out];simp[sameL,h0,h1,h2,h3,h4,h5,h6,h7],d6.out⟩
  ·skip
   have z1:(((e:Nat):Int)=((e':Nat):Int))=False:=by simp only[eq_iff_iff,iff_false];exact h8
   have z2:(((e:Nat):Int) == ((e':Nat):Int))=false:=beq_false_of_ne h8
   go_wp2_with (first
    |((with_reducible go_at_call 26);refine (hsi.out _ b5.out).mono ?_;rintro e_ w6 ⟨rfl,hd⟩;have d6:=Lib.hid hd.below;have x6:=Lib.hid (heap_below x5.out hd.below);have y6:=Lib.hid (heap_below y5.out hd.below);have rA:=Lib.hid (hrA.out _ _ _ x6.out);have rB:=Lib.hid (hrB.out _ _ _ y6.out);obtain ⟨-,p1,p2,p3,p4,p5,p6,p7,p8,p9,p10,p11⟩:=hcA.out _ _ _ x6.out;obtain ⟨-,s1,s2,s3,s4,s5,s6,s7,s8,s9,s10,s11⟩:=hcB.out _ _ _ y6.out;rw[h0] at p1;rw[h1] at p2;rw[h2] at p3;rw[h3] at p4;rw[h4] at p5;rw[h5] at p6;rw[h6] at p7;rw[h7] at p8;clear hd)
    |((with_reducible refine wpList_load_mid_on ?_ 49 _ rfl w2.heap.size 9 rfl LA _ rA.out Try.underlying49 rfl hsA.out ?_);exact rfl)
    |((with_reducible refine wpList_load_mid_on ?_ 49 _ rfl w4.heap.size 9 rfl LB _ rB.out Try.underlying49 rfl hsB'.out ?_);exact rfl))
   go_meet
   exact ⟨by rw[hsB1.out];simp[sameL,h0,h1,h2,h3,h4,h5,h6,h7,h8],d6.out⟩
  ·skip
   have z1:(((u:Nat):Int)=((u':Nat):Int))=False:=by simp only[eq_iff_iff,iff_false];exact h9
   have z2:(((u:Nat):Int) == ((u':Nat):Int))=false:=beq_false_of_ne h9
   go_wp2_with (first
    |((with_reducible go_at_call 26);refine (hsi.out _ b5.out).mono ?_;rintro e_ w6 ⟨rfl,hd⟩;have d6:=Lib.hid hd.below;have x6:=Lib.hid (heap_below x5.out hd.below);have y6:=Lib.hid (heap_below y5.out hd.below);have rA:=Lib.hid (hrA.out _ _ _ x6.out);have rB:=Lib.hid (hrB.out _ _ _ y6.out);obtain ⟨-,p1,p2,p3,p4,p5,p6,p7,p8,p9,p10,p11⟩:=hcA.out _ _ _ x6.out;obtain ⟨-,s1,s2,s3,s4,s5,s6,s7,s8,s9,s10,s11⟩:=hcB.out _ _ _ y6.out;rw[h0] at p1;rw[h1] at p2;rw[h2] at p3;rw[h3] at p4;rw[h4] at p5;rw[h5] at p6;rw[h6] at p7;rw[h7] at p8;rw[h8] at p9;clear hd)
    |((with_reducible refine wpList_load_mid_on ?_ 49 _ rfl w2.heap.size 9 rfl LA _ rA.out Try.underlying49 rfl hsA.out ?_);exact rfl)
    |((with_reducible refine wpList_load_mid_on ?_ 49 _ rfl w4.heap.size 9 rfl LB _ rB.out Try.underlying49 rfl hsB'.out ?_);exact rfl))
   go_meet
   exact ⟨by rw[hsB1.out];simp[sameL,h0,h1,h2,h3,h4,h5,h6,h7,h8,h9],d6.out⟩
  ·skip
   have hr0:ro' = !ro:=by revert h10;cases ro <;> cases ro' <;> simp
   subst hr0
   clear h10
   cases ro
   all_goals
    go_wp2_with (first
     |((with_reducible go_at_call 26);refine (hsi.out _ b5.out).mono ?_;rintro e_ w6 ⟨rfl,hd⟩;have d6:=Lib.hid hd.below;have x6:=Lib.hid (heap_below x5.out hd.below);have y6:=Lib.hid (heap_below y5.out hd.below);have rA:=Lib.hid (hrA.out _ _ _ x6.out);have rB:=Lib.hid (hrB.out _ _ _ y6.out);obtain ⟨-,p1,p2,p3,p4,p5,p6,p7,p8,p9,p10,p11⟩:=hcA.out _ _ _ x6.out;obtain ⟨-,s1,s2,s3,s4,s5,s6,s7,s8,s9,s10,s11⟩:=hcB.out _ _ _ y6.out;rw[h0] at p1;rw[h1] at p2;rw[h2] at p3;rw[h3] at p4;rw[h4] at p5;rw[h5] at p6;rw[h6] at p7;rw[h7] at p8;rw[h8] at p9;rw[h9] at p10;clear hd)
     |((with_reducible refine wpList_load_mid_on ?_ 49 _ rfl w2.heap.size 9 rfl LA _ rA.out Try.underlying49 rfl hsA.out ?_);exact rfl)
     |((with_reducible refine wpList_load_mid_on ?_ 49 _ rfl w4.heap.size 9 rfl LB _ rB.out Try.underlying49 rfl hsB'.out ?_);exact rfl))
    go_meet
    exact ⟨by rw[hsB1.out];simp[sameL],d6.out⟩
  go_wp2_with (first
   |((with_reducible go_at_call 26);refine (hsi.out _ b5.out).mono ?_;rintro e_ w6 ⟨rfl,hd⟩;have d6:=Lib.hid hd.below;have x6:=Lib.hid (heap_below x5.out hd.below);have y6:=Lib.hid (heap_below y5.out hd.below);have rA:=Lib.hid (hrA.out _ _ _ x6.out);have rB:=Lib.hid (hrB.out _ _ _ y6.out);obtain ⟨-,p1,p2,p3,p4,p5,p6,p7,p8,p9,p10,p11⟩:=hcA.out _ _ _ x6.out;obtain ⟨-,s1,s2,s3,s4,s5,s6,s7,s8,s9,s10,s11⟩:=hcB.out _ _ _ y6.out;rw[h0] at p1;rw[h1] at p2;rw[h2] at p3;rw[h3] at p4;rw[h4] at p5;rw[h5] at p6;rw[h6] at p7;rw[h7] at p8;rw[h8] at p9;rw[h9] at p10;rw[h10] at p11;clear hd)
   |((with_reducible refine wpList_load_mid_on ?_ 49 _ rfl w2.heap.size 9 rfl LA _ rA.out Try.underlying49 rfl hsA.out ?_);exact rfl)
   |((with_reducible refine wpList_load_mid_on ?_ 49 _ rfl w4.heap.size 9 rfl LB _ rB.out Try.underlying49 rfl hsB'.out ?_);exact rfl))
  go_meet
  exact ⟨by rw[hsB1.out];simp[sameL,h0,h1,h2,h3,h4,h5,h6,h7,h8,h9,h10],d6.out⟩
 case rest=>
  obtain ⟨rfl,hb⟩:=hcut
  have b6:=Lib.hid (below_step b5.out hb)
  have a6:=Lib.hid (heap_below a5.out hb)
  have c6:=Lib.hid (heap_below c5.out hb)
  have x6:=Lib.hid (heap_below x5.out hb)
  clear hb qa qb hdf hsB1 a5 b5 c5 x5 y5 hsi hofA hofB
  go_upto_region 6 with fail
  refine start_ (n:=23) (S:=fun w'=>Below w.heap.size w w'∧Below wc.heap.size wc w') (ds:=[]) #[false,false,false,false,false,false,false,false,false,false,false,false,false,false,false,false,false,false,false,false,false,false,false] (by kernel_rfl) rfl rfl (by exact ⟨below_drew b6.out,below_drew (Below.refl _ _)⟩) (fun hHeld=>?_)
  refine take_ (i:=0) (N:=some 114) (v:=?_) (a':=?_) #[true,false,false,false,false,false,false,false,false,false,false,false,false,false,false,false,false,false,false,false,false,false,false] rfl rfl (by kernel_rfl) (fun _ _ _ h=>h) (Or.inl ⟨by rfl,?_⟩) hHeld ?_ ?_
  rotate_left
  ·intro w' hS
   refine (exec_load_row w' 47 _ (by rfl) w.heap.size (by rfl) 47 CA (0,0) _ (heap_below a6.out hS.2) Try.underlying47 rfl hpA.out).trans ?_;show Result.ok (Next.value (Value.agg CA)) w'=_;with_reducible rfl
  rotate_left
  ·simp only[Act.put,sZ0,sZ1,sZ2,i64_w,i32_w];rfl
  refine take_ (i:=2) (N:=some 116) (v:=?_) (a':=?_) #[true,false,true,false,false,false,false,false,false,false,false,false,false,false,false,false,false,false,false,false,false,false,false] rfl rfl (by kernel_rfl) (fun _ _ _ h=>h) (Or.inl ⟨by rfl,?_⟩) hHeld ?_ ?_
  rotate_left
  ·intro w' hS
   refine (exec_load_row w' 51 _ (by rfl) w2.heap.size (by rfl) 51 CA (0,0) _ (heap_below x6.out hS.2) Try.underlying51 rfl hCAs.out).trans ?_;show Result.ok (Next.value (Value.agg CA)) w'=_;with_reducible rfl
  rotate_left
  ·simp only[Act.put,sZ0,sZ1,sZ2,i64_w,i32_w];rfl
  refine one_ (i:=1) (N:=some 115) #[true,true,true,false,false,false,false,false,false,false,false,false,false,false,false,false,false,false,false,false,false,false,false] rfl rfl (by kernel_rfl) (by decide) (fun K hK=>?_)
  refine goes_ Try.func27 (by kernel_rfl) rfl #[.agg CA] (by rfl) rfl rfl (by (try simp only[List.map_toArray,List.map_cons,List.map_nil]);first | done | rfl) ?_
  refine (htx.out _ hHeld.1).mono ?_
  rintro e_ w7 ⟨rfl,hb⟩
  refine ⟨_,rfl,?_⟩
  refine hK.out _ _ ⟨below_step hHeld.1 hb,below_step hHeld.2 hb⟩ (fun hHeld=>?_)
  clear hb
  clear hK K;refine norm_ (a':=?_) ?_ ?_
  rotate_left
  ·show Act.put _ (some 115) _=_
   simp only[Act.put,sZ0,sZ1,sZ2,i64_w,i32_w];rfl
  refine one_ (i:=3) (N:=some 117) #[true,true,true,true,false,false,false,false,false,false,false,false,false,false,false,false,false,false,false,false,false,false,false] rfl rfl (by kernel_rfl) (by decide) (fun K hK=>?_)
  refine goes_ Try.func28 (by kernel_rfl) rfl #[.agg CA] (by rfl) rfl rfl (by (try simp only[List.map_toArray,List.map_cons,List.map_nil]);first | done | rfl) ?_
  refine (hrt.out _ hHeld.1).mono ?_
  rintro e_ w8 ⟨rfl,hb⟩
  refine ⟨_,rfl,?_⟩
  refine hK.out _ _ ⟨below_step hHeld.1 hb,below_step hHeld.2 hb⟩ (fun hHeld=>?_)
  clear hb
  clear hK K;refine norm_ (a':=?_) ?_ ?_
  rotate_left
  ·show Act.put _ (some 117) _=_
   simp only[Act.put,sZ0,sZ1,sZ2,i64_w,i32_w];rfl
  refine pure_ (i:=4) (N:=some 118) (v:=?_) (a':=?_) #[true,true,true,true,true,false,false,false,false,false,false,false,false,false,false,false,false,false,false,false,false,false,false] rfl rfl (by kernel_rfl) (fun _ _ _ h=>h) (Or.inl ⟨by rfl,?_⟩) ?_ ?_
  rotate_left
  ·intro w'
   refine (exec_eql w' .eql 9 9 _ _ (by rfl) (.string T) (.string T) _ (by rfl) (by rfl) rfl (str_grd T _ _ w') (str_eql T w')).trans ?_;with_reducible rfl
  rotate_left
  ·simp only[Act.put,sZ0,sZ1,sZ2,i64_w,i32_w];rfl
  refine pure_ (i:=5) (N:=some 119) (v:=?_) (a':=?_) #[true,true,true,true,true,true,false,false,false,false,false,false,false,false,false,false,false,false,false,false,false,false,false] rfl rfl (by kernel_rfl) (fun _ _ _ h=>h) (Or.inl ⟨by rfl,?_⟩) ?_ ?_
  rotate_left
  ·intro w';go_simp;with_reducible rfl
  rotate_left
  ·simp only[Act.put,sZ0,sZ1,sZ2,i64_w,i32_w];rfl
  refine pure_ (i:=6) (N:=some 120) (v:=?_) (a':=?_) #[true,true,true,true,true,true,true,false,false,false,false,false,false,false,false,false,false,false,false,false,false,false,false] rfl rfl (by kernel_rfl) (fun _ _ _ h=>h) (Or.inl ⟨by rfl,?_⟩) ?_ ?_
  rotate_left
  ·intro w';go_simp;with_reducible rfl
  rotate_left
  ·simp only[Act.put,sZ0,sZ1,sZ2,i64_w,i32_w];rfl
  refine pure_ (i:=8) (N:=some 122) (v:=?_) (a':=?_) #[true,true,true,true,true,true,true,false,true,false,false,false,false,false,false,false,false,false,false,false,false,false,false] rfl rfl (by kernel_rfl) (fun _ _ _ h=>h) (Or.inl ⟨by rfl,?_⟩) ?_ ?_
  rotate_left
  ·intro w';go_simp;with_reducible rfl
  rotate_left
  ·simp only[Act.put,sZ0,sZ1,sZ2,i64_w,i32_w];rfl
  refine one_ (i:=7) (N:=some 121) #[true,true,true,true,true,true,true,true,true,false,false,false,false,false,false,false,false,false,false,false,false,false,false] rfl rfl (by kernel_rfl) (by decide) (fun K hK=>?_)
  refine goes_ Try.func29 (by kernel_rfl) rfl #[.int .i64 n] (by rfl) rfl rfl (by (try simp only[List.map_toArray,List.map_cons,List.map_nil]);first | done | rfl) ?_
  refine (hnu.out _).mono ?_
  rintro e_ w9 ⟨rfl,hb⟩
  refine ⟨_,rfl,?_⟩
  refine hK.out _ _ ⟨below_step hHeld.1 hb,below_step hHeld.2 hb⟩ (fun hHeld=>?_)
  clear hb
  clear hK K;refine norm_ (a':=?_) ?_ ?_
  rotate_left
  ·show Act.put _ (some 121) _=_
   simp only[Act.put,sZ0,sZ1,sZ2,i64_w,i32_w];rfl
  refine one_ (i:=9) (N:=some 123) #[true,true,true,true,true,true,true,true,true,true,false,false,false,false,false,false,false,false,false,false,false,false,false] rfl rfl (by kernel_rfl) (by decide) (fun K hK=>?_)
  refine goes_ Try.func30 (by kernel_rfl) rfl #[.int .i64 n] (by rfl) rfl rfl (by (try simp only[List.map_toArray,List.map_cons,List.map_nil]);first | done | rfl) ?_
  refine (hrn.out _).mono ?_
  rintro e_ w10 ⟨rfl,hd⟩
  refine ⟨_,rfl,?_⟩
  refine hK.out _ _ ⟨below_step hHeld.1 hd.below,below_step hHeld.2 hd.below⟩ (fun hHeld=>?_)
  clear hd
  clear hK K;refine norm_ (a':=?_) ?_ ?_
  rotate_left
  ·show Act.put _ (some 123) _=_
   simp only[Act.put,sZ0,sZ1,sZ2,i64_w,i32_w];rfl
  refine pure_ (i:=10) (N:=some 124) (v:=?_) (a':=?_) #[true,true,true,true,true,true,true,true,true,true,true,false,false,false,false,false,false,false,false,false,false,false,false] rfl rfl (by kernel_rfl) (fun _ _ _ h=>h) (Or.inl ⟨by rfl,?_⟩) ?_ ?_
  rotate_left
  ·intro w'
   refine (exec_eql w' .eql 9 9 _ _ (by rfl) (.string NS) (.string NS) _ (by rfl) (by rfl) rfl (str_grd NS _ _ w') (str_eql NS w')).trans ?_;with_reducible rfl
  rotate_left
  ·simp only[Act.put,sZ0,sZ1,sZ2,i64_w,i32_w];rfl
  refine pure_ (i:=11) (N:=some 125) (v:=?_) (a':=?_) #[true,true,true,true,true,true,true,true,true,true,true,true,false,false,false,false,false,false,false,false,false,false,false] rfl rfl (by kernel_rfl) (fun _ _ _ h=>h) (Or.inl ⟨by rfl,?_⟩) ?_ ?_
  rotate_left
  ·intro w';go_simp;with_reducible rfl
  rotate_left
  ·simp only[Act.put,sZ0,sZ1,sZ2,i64_w,i32_w];rfl
  refine pure_ (i:=12) (N:=some 126) (v:=?_) (a':=?_) #[true,true,true,true,true,true,true,true,true,true,true,true,true,false,false,false,false,false,false,false,false,false,false] rfl rfl (by kernel_rfl) (fun _ _ _ h=>h) (Or.inl ⟨by rfl,?_⟩) ?_ ?_
  rotate_left
  ·intro w';go_simp;with_reducible rfl
  rotate_left
  ·simp only[Act.put,sZ0,sZ1,sZ2,i64_w,i32_w];rfl
  refine take_ (i:=13) (N:=some 127) (v:=?_) (a':=?_) #[true,true,true,true,true,true,true,true,true,true,true,true,true,true,false,false,false,false,false,false,false,false,false] rfl rfl (by kernel_rfl) (fun _ _ _ h=>h) (Or.inl ⟨by rfl,?_⟩) hHeld ?_ ?_
  rotate_left
  ·intro w' hS
   refine (exec_load_row w' 47 _ (by rfl) w.heap.size (by rfl) 47 CA (0,0) _ (heap_below a6.out hS.2) Try.underlying47 rfl hpA.out).trans ?_;show Result.ok (Next.value (Value.agg CA)) w'=_;with_reducible rfl
  rotate_left
  ·simp only[Act.put,sZ0,sZ1,sZ2,i64_w,i32_w];rfl
  refine take_ (i:=14) (N:=some 128) (v:=?_) (a':=?_) #[true,true,true,true,true,true,true,true,true,true,true,true,true,true,true,false,false,false,false,false,false,false,false] rfl rfl (by kernel_rfl) (fun _ _ _ h=>h) (Or.inl ⟨by rfl,?_⟩) hHeld ?_ ?_
  rotate_left
  ·intro w' hS
   refine (exec_load_row w' 47 _ (by rfl) (w.heap.size+1) (by rfl) 47 CB (0,0) _ (heap_below c6.out hS.2) Try.underlying47 rfl hpB.out).trans ?_;show Result.ok (Next.value (Value.agg CB)) w'=_;with_reducible rfl
  rotate_left
  ·simp only[Act.put,sZ0,sZ1,sZ2,i64_w,i32_w];rfl
  refine pure_ (i:=16) (N:=some 130) (v:=?_) (a':=?_) #[true,true,true,true,true,true,true,true,true,true,true,true,true,true,true,false,true,false,false,false,false,false,false] rfl rfl (by kernel_rfl) (fun _ _ _ h=>h) (Or.inl ⟨by rfl,?_⟩) ?_ ?_
  rotate_left
  ·intro w';go_simp;with_reducible rfl
  rotate_left
  ·simp only[Act.put,sZ0,sZ1,sZ2,i64_w,i32_w];rfl
  refine one_ (i:=15) (N:=some 129) #[true,true,true,true,true,true,true,true,true,true,true,true,true,true,true,true,true,false,false,false,false,false,false] rfl rfl (by kernel_rfl) (by decide) (fun K hK=>?_)
  refine goes_ Try.func31 (by kernel_rfl) rfl #[.agg CA,.agg CB] (by rfl) rfl rfl (by (try simp only[List.map_toArray,List.map_cons,List.map_nil]);first | done | rfl) ?_
  refine (hsm.out _ hHeld.1).mono ?_
  rintro e_ w11 ⟨rfl,hb⟩
  refine ⟨_,rfl,?_⟩
  refine hK.out _ _ ⟨below_step hHeld.1 hb,below_step hHeld.2 hb⟩ (fun hHeld=>?_)
  clear hb
  clear hK K;refine norm_ (a':=?_) ?_ ?_
  rotate_left
  ·show Act.put _ (some 129) _=_
   simp only[Act.put,sZ0,sZ1,sZ2,i64_w,i32_w];rfl
  refine pure_ (i:=17) (N:=some 131) (v:=?_) (a':=?_) #[true,true,true,true,true,true,true,true,true,true,true,true,true,true,true,true,true,true,false,false,false,false,false] rfl rfl (by kernel_rfl) (fun _ _ _ h=>h) (Or.inl ⟨by rfl,?_⟩) ?_ ?_
  rotate_left
  ·intro w'
   refine (exec_eql w' .eql 4 4 _ _ (by rfl) (.bool sB) (.bool sB) _ (by rfl) (by rfl) rfl (bool_grd sB _ _ w') (bool_eql sB w')).trans ?_;with_reducible rfl
  rotate_left
  ·simp only[Act.put,sZ0,sZ1,sZ2,i64_w,i32_w];rfl
  refine pure_ (i:=18) (N:=some 132) (v:=?_) (a':=?_) #[true,true,true,true,true,true,true,true,true,true,true,true,true,true,true,true,true,true,true,false,false,false,false] rfl rfl (by kernel_rfl) (fun _ _ _ h=>h) (Or.inl ⟨by rfl,?_⟩) ?_ ?_
  rotate_left
  ·intro w';go_simp;with_reducible rfl
  rotate_left
  ·simp only[Act.put,sZ0,sZ1,sZ2,i64_w,i32_w];rfl
  refine pure_ (i:=19) (N:=some 133) (v:=?_) (a':=?_) #[true,true,true,true,true,true,true,true,true,true,true,true,true,true,true,true,true,true,true,true,false,false,false] rfl rfl (by kernel_rfl) (fun _ _ _ h=>h) (Or.inl ⟨by rfl,?_⟩) ?_ ?_
  rotate_left
  ·intro w';go_simp;with_reducible rfl
  rotate_left
  ·simp only[Act.put,sZ0,sZ1,sZ2,i64_w,i32_w];rfl
  refine one_ (i:=20) (N:=some 134) #[true,true,true,true,true,true,true,true,true,true,true,true,true,true,true,true,true,true,true,true,true,false,false] rfl rfl (by kernel_rfl) (by decide) (fun K hK=>?_)
  refine goes_ Try.func24 (by kernel_rfl) rfl #[] (by rfl) rfl rfl (by (try simp only[List.map_toArray,List.map_cons,List.map_nil]);first | done | rfl) ?_
  refine (hawk.out _).mono ?_
  rintro e_ w12 ⟨rfl,hb⟩
  refine ⟨_,rfl,?_⟩
  refine hK.out _ _ ⟨below_step hHeld.1 hb,below_step hHeld.2 hb⟩ (fun hHeld=>?_)
  clear hb
  have b12:=Lib.hid hHeld.1
  clear hK K;refine norm_ (a':=?_) ?_ ?_
  rotate_left
  ·show Act.put _ (some 134) _=_
   simp only[Act.put,sZ0,sZ1,sZ2,i64_w,i32_w];rfl
  refine pure_ (i:=21) (N:=some 135) (v:=?_) (a':=?_) #[true,true,true,true,true,true,true,true,true,true,true,true,true,true,true,true,true,true,true,true,true,true,false] rfl rfl (by kernel_rfl) (fun _ _ _ h=>h) (Or.inl ⟨by rfl,?_⟩) ?_ ?_
  rotate_left
  ·intro w';go_simp;with_reducible rfl
  rotate_left
  ·simp only[Act.put,sZ0,sZ1,sZ2,i64_w,i32_w];rfl
  refine pure_ (i:=22) (N:=some 6) (v:=?_) (a':=?_) #[true,true,true,true,true,true,true,true,true,true,true,true,true,true,true,true,true,true,true,true,true,true,true] rfl rfl (by kernel_rfl) (fun _ _ _ h=>h) (Or.inl ⟨by rfl,?_⟩) ?_ ?_
  rotate_left
  ·intro w';go_simp;with_reducible rfl
  rotate_left
  ·simp only[Act.put,sZ0,sZ1,sZ2,i64_w,i32_w];rfl
  refine done_ (by kernel_rfl) ?_
  go_wp2_with fail
  go_ret
  exact ⟨rfl,b12.out⟩
end Go.Proofs.Ytiogdomjmjiahaa.Own
