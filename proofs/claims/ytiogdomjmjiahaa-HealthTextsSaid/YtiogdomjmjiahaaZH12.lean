/- QAx5, pruned (slim.py). -/
import Derived.Test.YtiogdomjmjiahaaZH2
namespace Go.Proofs.Ytiogdomjmjiahaa.Own
end Go.Proofs.Ytiogdomjmjiahaa.Own
namespace Go.Proofs.Ytiogdomjmjiahaa.QA
open Go.RowKit Go.Proofs.Ytiogdomjmjiahaa.Own Go.Proofs.YtiogdomjmjiahaaW.PrintWords Go.Proofs.YtiogdomjmjiahaaW.PrintLast Go.Proofs.YtiogdomjmjiahaaW.PrintMore
attribute [local go_sem] max2_int min2_int max_two min_two max_three min_three max_four min_four
set_option linter.unusedVariables false
set_option linter.unusedSimpArgs false
def nepentheref32_Digits.l0:Nat→Int→ByteArray→Int→Option (ByteArray)
 |0,_,_,_=>none
 |k+1,x0,x3,x4=>if x4<20 then (if x0>0 then (if 0≤(wrap64 (Int.tmod x0 10)) then (if (wrap64 (Int.tmod x0 10))≤(wrap64 ((wrap64 (Int.tmod x0 10))+1)) then (if (wrap64 ((wrap64 (Int.tmod x0 10))+1))≤10 then (if ((⟨#[48,49,50,51,52,53,54,55,56,57]⟩:ByteArray).extract ((wrap64 (Int.tmod x0 10)):Int).toNat ((wrap64 ((wrap64 (Int.tmod x0 10))+1)):Int).toNat).size+x3.size≤9223372036854775807 then (nepentheref32_Digits.l0 k (IntKind.u64.wrap (Int.tdiv x0 10)) (((⟨#[48,49,50,51,52,53,54,55,56,57]⟩:ByteArray).extract ((wrap64 (Int.tmod x0 10)):Int).toNat ((wrap64 ((wrap64 (Int.tmod x0 10))+1)):Int).toNat)++x3) (wrap64 (x4+1))) else (none)) else (none)) else (none)) else (none)) else (if x4=0 then (if 0≤(wrap64 (Int.tmod x0 10)) then (if (wrap64 (Int.tmod x0 10))≤(wrap64 ((wrap64 (Int.tmod x0 10))+1)) then (if (wrap64 ((wrap64 (Int.tmod x0 10))+1))≤10 then (if ((⟨#[48,49,50,51,52,53,54,55,56,57]⟩:ByteArray).extract ((wrap64 (Int.tmod x0 10)):Int).toNat ((wrap64 ((wrap64 (Int.tmod x0 10))+1)):Int).toNat).size+x3.size≤9223372036854775807 then (nepentheref32_Digits.l0 k (IntKind.u64.wrap (Int.tdiv x0 10)) (((⟨#[48,49,50,51,52,53,54,55,56,57]⟩:ByteArray).extract ((wrap64 (Int.tmod x0 10)):Int).toNat ((wrap64 ((wrap64 (Int.tmod x0 10))+1)):Int).toNat)++x3) (wrap64 (x4+1))) else (none)) else (none)) else (none)) else (none)) else (nepentheref32_Digits.l0 k (IntKind.u64.wrap (Int.tdiv x0 10)) x3 (wrap64 (x4+1))))) else (some x3)
def nepentheref32_Digits.f (k:Nat) (a0:Int):Option (ByteArray):=nepentheref32_Digits.l0 k a0 (⟨#[]⟩:ByteArray) 0
set_option maxHeartbeats 8000000 in
set_option maxRecDepth 100000 in
theorem nepentheref32_Digits.calls (k:Nat) (a0:Int) (r:ByteArray) (w:World) (h:nepentheref32_Digits.f k a0=some r) :
  Calls Try.prog 64 #[.int .u64 a0] w fun e w'=>e=.returned (.string r)∧Drawn0 w w':=by
 have H:(nepentheref32_Digits.l0 k a0 (⟨#[]⟩:ByteArray) 0)=some r:=h
 clear h
 have H':=Aside0.mk H
 clear H
 go_enter Try.func64,Try.ntmps64
 go_wp2
 go_loopg [0,3,4] k (fun kq v0 v3 v4 w'=>∃ (x0_1:Int) (x3_1:ByteArray) (x4_1:Int),v0=.int .u64 x0_1∧v3=.string x3_1∧v4=.int .i64 x4_1∧Aside0 (nepentheref32_Digits.l0 kq x0_1 x3_1 x4_1=some r)∧Aside0 (kq≤k)∧Drawn0 w w')
 case atStart=>exact ⟨(a0),((⟨#[]⟩:ByteArray)),(0),(by first | rfl | (simp;done) | (simp[*];done)),(by first | rfl | (simp;done) | (simp[*];done)),(by first | rfl | (simp;done) | (simp[*];done)),H',⟨Nat.le_refl _⟩,by repeat (first | exact Drawn0.refl _ | apply Drawn0.step)⟩
 case round=>
  clear H'
  obtain ⟨x0_1,x3_1,x4_1,rfl,rfl,rfl,HA,HK1,⟨m1,rfl⟩⟩:=hrel
  cases gk with
  |zero=>exact absurd HA.out (by simp[nepentheref32_Digits.l0])
  |succ k1=>
   have H:=HA.out
   clear HA
   simp only[nepentheref32_Digits.l0] at H
   by_cases c2:x4_1<20
   ·rw[if_pos c2] at H
    have c2b0:decide (x4_1<20)=true:=decide_eq_true c2
    clear c2
    by_cases c3:x0_1>0
    ·rw[if_pos c3] at H
     have c3b0:decide (0<x0_1)=true:=decide_eq_true c3
     clear c3
     obtain ⟨ji4,hji4⟩:∃ j_:Int,(wrap64 (Int.tmod x0_1 10))=j_:=⟨_,rfl⟩
     replace H:(if 0≤(ji4) then (if (ji4)≤(wrap64 ((ji4)+1)) then (if (wrap64 ((ji4)+1))≤10 then (if ((⟨#[48,49,50,51,52,53,54,55,56,57]⟩:ByteArray).extract ((ji4):Int).toNat ((wrap64 ((ji4)+1)):Int).toNat).size+x3_1.size≤9223372036854775807 then (nepentheref32_Digits.l0 k1 (IntKind.u64.wrap (Int.tdiv x0_1 10)) (((⟨#[48,49,50,51,52,53,54,55,56,57]⟩:ByteArray).extract ((ji4):Int).toNat ((wrap64 ((ji4)+1)):Int).toNat)++x3_1) (wrap64 (x4_1+1))) else (none)) else (none)) else (none)) else (none))=some r:=by first | (rw[hji4] at H;exact H) | (simp only[hji4] at H ⊢;exact H)
     have hji4w:(IntKind.i64.wrap (Int.tmod x0_1 10))=ji4:=(i64_w _).trans hji4
     by_cases c5:0≤(ji4)
     ·rw[if_pos c5] at H
      have c5b0:=eq_true c5
      have c5b1:decide (0≤(ji4))=true:=decide_eq_true c5
      clear c5
      by_cases c6:(ji4)≤(wrap64 ((ji4)+1))
      ·rw[if_pos c6] at H
       have c6b0:=eq_true c6
       have c6b1:decide ((ji4)≤(wrap64 ((ji4)+1)))=true:=decide_eq_true c6
       by_cases c7:(wrap64 ((ji4)+1))≤10
       ·rw[if_pos c7] at H
        have c7b0:=eq_true c7
        have c7b1:decide ((wrap64 ((ji4)+1))≤10)=true:=decide_eq_true c7
        by_cases c8:((⟨#[48,49,50,51,52,53,54,55,56,57]⟩:ByteArray).extract ((ji4):Int).toNat ((wrap64 ((ji4)+1)):Int).toNat).size+x3_1.size≤9223372036854775807
        ·rw[if_pos c8] at H
         have c8b0:=eq_true c8
         have c8b1:decide (((⟨#[48,49,50,51,52,53,54,55,56,57]⟩:ByteArray).extract ((ji4):Int).toNat ((wrap64 ((ji4)+1)):Int).toNat).size+x3_1.size≤9223372036854775807)=true:=decide_eq_true c8
         try have c8b2:(9223372036854775807<((⟨#[48,49,50,51,52,53,54,55,56,57]⟩:ByteArray).extract ((ji4):Int).toNat ((wrap64 ((ji4)+1)):Int).toNat).size+x3_1.size)=False:=eq_false (Nat.not_lt.2 c8)
         have H':=Aside0.mk H
         clear H
         go_wp2
         go_roundg k1
         case measure=>have:=HK1.out;omega
         case rel=>exact ⟨(IntKind.u64.wrap (Int.tdiv x0_1 10)),(((⟨#[48,49,50,51,52,53,54,55,56,57]⟩:ByteArray).extract ((ji4):Int).toNat ((wrap64 ((ji4)+1)):Int).toNat)++x3_1),(wrap64 (x4_1+1)),(by first | rfl | (simp;done) | (simp[*];done)),(by first | rfl | (simp;done) | (simp only[← hji4] <;> (first | rfl | simp)) | (simp[*];done)),(by first | rfl | (simp;done) | (simp[*];done)),H',⟨by have:=HK1.out;omega⟩,by repeat (first | exact Drawn0.refl _ | apply Drawn0.step)⟩
        rw[if_neg c8] at H
        exact absurd H (by simp)
       rw[if_neg c7] at H
       exact absurd H (by simp)
      rw[if_neg c6] at H
      exact absurd H (by simp)
     rw[if_neg c5] at H
     exact absurd H (by simp)
    rw[if_neg c3] at H
    have c3b0:decide (0<x0_1)=false:=decide_eq_false c3
    clear c3
    by_cases c9:x4_1=0
    ·rw[if_pos c9] at H
     have c9b0:(x4_1 == 0)=true:=beq_iff_eq.mpr c9
     have c9b1:(x4_1 != 0)=false:=bne_eq_false_iff_eq.mpr c9
     clear c9
     obtain ⟨ji10,hji10⟩:∃ j_:Int,(wrap64 (Int.tmod x0_1 10))=j_:=⟨_,rfl⟩
     replace H:(if 0≤(ji10) then (if (ji10)≤(wrap64 ((ji10)+1)) then (if (wrap64 ((ji10)+1))≤10 then (if ((⟨#[48,49,50,51,52,53,54,55,56,57]⟩:ByteArray).extract ((ji10):Int).toNat ((wrap64 ((ji10)+1)):Int).toNat).size+x3_1.size≤9223372036854775807 then (nepentheref32_Digits.l0 k1 (IntKind.u64.wrap (Int.tdiv x0_1 10)) (((⟨#[48,49,50,51,52,53,54,55,56,57]⟩:ByteArray).extract ((ji10):Int).toNat ((wrap64 ((ji10)+1)):Int).toNat)++x3_1) (wrap64 (x4_1+1))) else (none)) else (none)) else (none)) else (none))=some r:=by first | (rw[hji10] at H;exact H) | (simp only[hji10] at H ⊢;exact H)
     have hji10w:(IntKind.i64.wrap (Int.tmod x0_1 10))=ji10:=(i64_w _).trans hji10
     by_cases c11:0≤(ji10)
     ·rw[if_pos c11] at H
      have c11b0:=eq_true c11
      have c11b1:decide (0≤(ji10))=true:=decide_eq_true c11
      clear c11
      by_cases c12:(ji10)≤(wrap64 ((ji10)+1))
      ·rw[if_pos c12] at H
       have c12b0:=eq_true c12
       have c12b1:decide ((ji10)≤(wrap64 ((ji10)+1)))=true:=decide_eq_true c12
       by_cases c13:(wrap64 ((ji10)+1))≤10
       ·rw[if_pos c13] at H
        have c13b0:=eq_true c13
        have c13b1:decide ((wrap64 ((ji10)+1))≤10)=true:=decide_eq_true c13
        by_cases c14:((⟨#[48,49,50,51,52,53,54,55,56,57]⟩:ByteArray).extract ((ji10):Int).toNat ((wrap64 ((ji10)+1)):Int).toNat).size+x3_1.size≤9223372036854775807
        ·rw[if_pos c14] at H
         have c14b0:=eq_true c14
         have c14b1:decide (((⟨#[48,49,50,51,52,53,54,55,56,57]⟩:ByteArray).extract ((ji10):Int).toNat ((wrap64 ((ji10)+1)):Int).toNat).size+x3_1.size≤9223372036854775807)=true:=decide_eq_true c14
         try have c14b2:(9223372036854775807<((⟨#[48,49,50,51,52,53,54,55,56,57]⟩:ByteArray).extract ((ji10):Int).toNat ((wrap64 ((ji10)+1)):Int).toNat).size+x3_1.size)=False:=eq_false (Nat.not_lt.2 c14)
         have H':=Aside0.mk H
         clear H
         go_wp2
         go_roundg k1
         case measure=>have:=HK1.out;omega
         case rel=>exact ⟨(IntKind.u64.wrap (Int.tdiv x0_1 10)),(((⟨#[48,49,50,51,52,53,54,55,56,57]⟩:ByteArray).extract ((ji10):Int).toNat ((wrap64 ((ji10)+1)):Int).toNat)++x3_1),(wrap64 (x4_1+1)),(by first | rfl | (simp;done) | (simp[*];done)),(by first | rfl | (simp;done) | (simp only[← hji10] <;> (first | rfl | simp)) | (simp[*];done)),(by first | rfl | (simp;done) | (simp[*];done)),H',⟨by have:=HK1.out;omega⟩,by repeat (first | exact Drawn0.refl _ | apply Drawn0.step)⟩
        rw[if_neg c14] at H
        exact absurd H (by simp)
       rw[if_neg c13] at H
       exact absurd H (by simp)
      rw[if_neg c12] at H
      exact absurd H (by simp)
     rw[if_neg c11] at H
     exact absurd H (by simp)
    rw[if_neg c9] at H
    have c9b0:(x4_1 == 0)=false:=beq_eq_false_iff_ne.mpr c9
    have c9b1:(x4_1 != 0)=true:=bne_iff_ne.mpr c9
    have H':=Aside0.mk H
    clear H
    go_wp2
    go_roundg k1
    case measure=>have:=HK1.out;omega
    case rel=>exact ⟨(IntKind.u64.wrap (Int.tdiv x0_1 10)),(x3_1),(wrap64 (x4_1+1)),(by first | rfl | (simp;done) | (simp[*];done)),(by first | rfl | (simp;done) | (simp[*];done)),(by first | rfl | (simp;done) | (simp[*];done)),H',⟨by have:=HK1.out;omega⟩,by repeat (first | exact Drawn0.refl _ | apply Drawn0.step)⟩
   rw[if_neg c2] at H
   have c2b0:decide (x4_1<20)=false:=decide_eq_false c2
   clear c2
   obtain rfl:=Option.some.inj H
   go_wp2
   go_ret
   exact ⟨by first | rfl | (simp;done) | (simp[*];done),by repeat (first | exact Drawn0.refl _ | apply Drawn0.step)⟩
def nepentheref32_Number.f (k:Nat) (a0:Int):Option (ByteArray):=if a0<0 then ((nepentheref32_Digits.f k (IntKind.u64.wrap ((IntKind.u64.wrap (wrap64 (-(wrap64 (a0+1)))))+1))).bind fun t230=>(if 1+t230.size≤9223372036854775807 then (some ((⟨#[45]⟩:ByteArray)++t230)) else (none))) else ((nepentheref32_Digits.f k (IntKind.u64.wrap (a0))).bind fun t231=>(some t231))
set_option maxHeartbeats 8000000 in
set_option maxRecDepth 100000 in
theorem nepentheref32_Number.calls (k:Nat) (a0:Int) (r:ByteArray) (w:World) (h:nepentheref32_Number.f k a0=some r) :
  Calls Try.prog 30 #[.int .i64 a0] w fun e w'=>e=.returned (.string r)∧Drawn0 w w':=by
 have H:(if a0<0 then ((nepentheref32_Digits.f k (IntKind.u64.wrap ((IntKind.u64.wrap (wrap64 (-(wrap64 (a0+1)))))+1))).bind fun t230=>(if 1+t230.size≤9223372036854775807 then (some ((⟨#[45]⟩:ByteArray)++t230)) else (none))) else ((nepentheref32_Digits.f k (IntKind.u64.wrap (a0))).bind fun t231=>(some t231)))=some r:=h
 clear h
 by_cases c2:a0<0
 ·rw[if_pos c2] at H
  have c2b0:decide (a0<0)=true:=decide_eq_true c2
  clear c2
  replace H:=Option.bind_eq_some_iff.mp H
  obtain ⟨t230,A30,H⟩:=H
  replace H:(if 1+t230.size≤9223372036854775807 then (some ((⟨#[45]⟩:ByteArray)++t230)) else (none))=some r:=H
  have A3:=Aside0.mk A30
  clear A30
  by_cases c4:1+t230.size≤9223372036854775807
  ·rw[if_pos c4] at H
   have c4b0:=eq_true c4
   have c4b1:decide (1+t230.size≤9223372036854775807)=true:=decide_eq_true c4
   try have c4b2:(9223372036854775807<1+t230.size)=False:=eq_false (Nat.not_lt.2 c4)
   obtain rfl:=Option.some.inj H
   go_enter Try.func30,Try.ntmps30
   go_wp2_with (first | ((with_reducible refine gate_callee (f:=64) rfl ?_);refine goesL_ (some 10) rfl rfl Try.func64 (by kernel_rfl) rfl #[.int .u64 (IntKind.u64.wrap ((IntKind.u64.wrap (wrap64 (-(wrap64 (a0+1)))))+1))] rfl (by (try simp only[List.map_toArray,List.map_cons,List.map_nil]);first | done | rfl | (simp only[List.length_drop,List.length_take];rfl)) ?_;(with_reducible refine (nepentheref32_Digits.calls k (IntKind.u64.wrap ((IntKind.u64.wrap (wrap64 (-(wrap64 (a0+1)))))+1)) t230 _ A3.out).mono ?_);rintro e w' ⟨rfl,⟨nd,rfl⟩⟩;refine ⟨_,rfl,?_⟩))
   go_ret
   exact ⟨by first | rfl | (simp;done) | (simp[*];done),by repeat (first | exact Drawn0.refl _ | apply Drawn0.step)⟩
  rw[if_neg c4] at H
  exact absurd H (by simp)
 rw[if_neg c2] at H
 have c2b0:decide (a0<0)=false:=decide_eq_false c2
 clear c2
 replace H:=Option.bind_eq_some_iff.mp H
 obtain ⟨t231,A50,H⟩:=H
 replace H:(some t231)=some r:=H
 have A5:=Aside0.mk A50
 clear A50
 obtain rfl:=Option.some.inj H
 go_enter Try.func30,Try.ntmps30
 go_wp2_with (first | ((with_reducible refine gate_callee (f:=64) rfl ?_);refine goesL_ (some 14) rfl rfl Try.func64 (by kernel_rfl) rfl #[.int .u64 (IntKind.u64.wrap (a0))] rfl (by (try simp only[List.map_toArray,List.map_cons,List.map_nil]);first | done | rfl | (simp only[List.length_drop,List.length_take];rfl)) ?_;(with_reducible refine (nepentheref32_Digits.calls k (IntKind.u64.wrap (a0)) t231 _ A5.out).mono ?_);rintro e w' ⟨rfl,⟨nd,rfl⟩⟩;refine ⟨_,rfl,?_⟩))
 go_ret
 exact ⟨by first | rfl | (simp;done) | (simp[*];done),by repeat (first | exact Drawn0.refl _ | apply Drawn0.step)⟩
def slices_Equal_int_int.l0:Nat→List Int→List Int→Int→Int→Option (Bool)
 |0,_,_,_,_=>none
 |k+1,x0,x1,x12,x13=>if x13<x12 then (if 0≤x13 then (if x13<(x0.length:Int) then (if x13<(x1.length:Int) then (if (rd x0 x13)=(rd x1 x13) then (slices_Equal_int_int.l0 k x0 x1 x12 (wrap64 (x13+1))) else (some false)) else (none)) else (none)) else (none)) else (some true)
def slices_Equal_int_int.f (k:Nat) (l0:List Int) (l1:List Int):Option (Bool):=if (l0.length:Int)=(l1.length:Int) then (slices_Equal_int_int.l0 k l0 l1 (l0.length:Int) 0) else (some false)
set_option maxHeartbeats 8000000 in
set_option maxRecDepth 100000 in
theorem slices_Equal_int_int.calls (k:Nat) (A0:Option Addr) (c0:Nat) (l0:List Int) (A1:Option Addr) (c1:Nat) (l1:List Int) (r:Bool) (w:World) (hr0:Kd.C (Kd.int .i64) w A0 l0.length l0) (hc0:l0.length≤c0) (hr1:Kd.C (Kd.int .i64) w A1 l1.length l1) (hc1:l1.length≤c1) (h:slices_Equal_int_int.f k l0 l1=some r) :
  Calls Try.prog 65 #[.slice A0 l0.length c0,.slice A1 l1.length c1] w fun e w'=>e=.returned (.bool r)∧Drawn0 w w':=by
 have HR0:=Aside0.mk hr0
 have HC0:=Aside0.mk hc0
 clear hr0 hc0
 have HR1:=Aside0.mk hr1
 have HC1:=Aside0.mk hc1
 clear hr1 hc1
 have H:(if (l0.length:Int)=(l1.length:Int) then (slices_Equal_int_int.l0 k l0 l1 (l0.length:Int) 0) else (some false))=some r:=h
 clear h
 by_cases c3:(l0.length:Int)=(l1.length:Int)
 ·rw[if_pos c3] at H
  have c3b0:((l0.length:Int) == (l1.length:Int))=true:=beq_iff_eq.mpr c3
  have c3b1:((l0.length:Int) != (l1.length:Int))=false:=bne_eq_false_iff_eq.mpr c3
  have c3b2:(l0.length == l1.length)=true:=by first | simpa using c3 | (simp at c3 ⊢;omega)
  clear c3
  have H':=Aside0.mk H
  clear H
  go_enter Try.func65,Try.ntmps65
  go_wp2
  repeat (go_quiet (fail);try go_wp2)
  go_loopg [13] k (fun kq v13 w'=>∃ (x13_1:Int),v13=.int .i64 x13_1∧Aside0 (slices_Equal_int_int.l0 kq l0 l1 (l0.length:Int) x13_1=some r)∧Aside0 (kq≤k)∧Drawn0 w w')
  case atStart=>exact ⟨(0),(by first | rfl | (simp;done) | (simp[*];done)),H',⟨Nat.le_refl _⟩,by repeat (first | exact Drawn0.refl _ | apply Drawn0.step)⟩
  case round=>
   clear H'
   try clear c1
   try clear p2
   try clear c3
   try clear c3b0
   try clear c3b1
   try clear c3b2
   obtain ⟨x13_1,rfl,HA,HK1,⟨m1,rfl⟩⟩:=hrel
   cases gk with
   |zero=>exact absurd HA.out (by simp[slices_Equal_int_int.l0])
   |succ k1=>
    have H:=HA.out
    clear HA
    simp only[slices_Equal_int_int.l0] at H
    by_cases c4:x13_1<(l0.length:Int)
    ·rw[if_pos c4] at H
     have c4b0:decide (x13_1<(l0.length:Int))=true:=decide_eq_true c4
     clear c4
     by_cases c5:0≤x13_1
     ·rw[if_pos c5] at H
      have c5b0:decide (0≤x13_1)=true:=decide_eq_true c5
      clear c5
      by_cases c6:x13_1<(l0.length:Int)
      ·rw[if_pos c6] at H
       have c6b0:decide (x13_1<(l0.length:Int))=true:=decide_eq_true c6
       clear c6
       by_cases c7:x13_1<(l1.length:Int)
       ·rw[if_pos c7] at H
        have c7b0:decide (x13_1<(l1.length:Int))=true:=decide_eq_true c7
        clear c7
        by_cases c8:(rd l0 x13_1)=(rd l1 x13_1)
        ·rw[if_pos c8] at H
         have c8b0:((rd l0 x13_1) == (rd l1 x13_1))=true:=beq_iff_eq.mpr c8
         have c8b1:((rd l0 x13_1) != (rd l1 x13_1))=false:=bne_eq_false_iff_eq.mpr c8
         clear c8
         have H':=Aside0.mk H
         clear H
         have p232:0≤(x13_1:Int):=of_decide_eq_true (by first | (with_reducible assumption) | assumption)
         have q232:x13_1<(l0.length:Int):=of_decide_eq_true (by first | (with_reducible assumption) | assumption)
         obtain ⟨ad232,e232,hx232_0⟩:=Kd.at_int HR0.out x13_1 p232 q232
         cases e232
         replace p232:=eq_true p232
         replace q232:=eq_true q232
         have p233:0≤(x13_1:Int):=of_decide_eq_true (by first | (with_reducible assumption) | assumption)
         have q233:x13_1<(l1.length:Int):=of_decide_eq_true (by first | (with_reducible assumption) | assumption)
         obtain ⟨ad233,e233,hx233_0⟩:=Kd.at_int HR1.out x13_1 p233 q233
         cases e233
         replace p233:=eq_true p233
         replace q233:=eq_true q233
         go_wp2
         repeat (go_quiet (fail);try go_wp2)
         go_roundg k1
         case measure=>have:=HK1.out;omega
         case rel=>exact ⟨(wrap64 (x13_1+1)),(by first | rfl | (simp;done) | (simp[*];done)),H',⟨by have:=HK1.out;omega⟩,by repeat (first | exact Drawn0.refl _ | apply Drawn0.step)⟩
        rw[if_neg c8] at H
        have c8b0:((rd l0 x13_1) == (rd l1 x13_1))=false:=beq_eq_false_iff_ne.mpr c8
        have c8b1:((rd l0 x13_1) != (rd l1 x13_1))=true:=bne_iff_ne.mpr c8
        obtain rfl:=Option.some.inj H
        have p232:0≤(x13_1:Int):=of_decide_eq_true (by first | (with_reducible assumption) | assumption)
        have q232:x13_1<(l0.length:Int):=of_decide_eq_true (by first | (with_reducible assumption) | assumption)
        obtain ⟨ad232,e232,hx232_0⟩:=Kd.at_int HR0.out x13_1 p232 q232
        cases e232
        replace p232:=eq_true p232
        replace q232:=eq_true q232
        have p233:0≤(x13_1:Int):=of_decide_eq_true (by first | (with_reducible assumption) | assumption)
        have q233:x13_1<(l1.length:Int):=of_decide_eq_true (by first | (with_reducible assumption) | assumption)
        obtain ⟨ad233,e233,hx233_0⟩:=Kd.at_int HR1.out x13_1 p233 q233
        cases e233
        replace p233:=eq_true p233
        replace q233:=eq_true q233
        go_wp2
        repeat (go_quiet (fail);try go_wp2)
        go_ret
        exact ⟨by first | rfl | (simp;done) | (simp[*];done),by repeat (first | exact Drawn0.refl _ | apply Drawn0.step)⟩
       rw[if_neg c7] at H
       exact absurd H (by simp)
      rw[if_neg c6] at H
      exact absurd H (by simp)
     rw[if_neg c5] at H
     exact absurd H (by simp)
    rw[if_neg c4] at H
    have c4b0:decide (x13_1<(l0.length:Int))=false:=decide_eq_false c4
    clear c4
    obtain rfl:=Option.some.inj H
    go_wp2
    repeat (go_quiet (fail);try go_wp2)
    go_ret
    exact ⟨by first | rfl | (simp;done) | (simp[*];done),by repeat (first | exact Drawn0.refl _ | apply Drawn0.step)⟩
 rw[if_neg c3] at H
 have c3b0:((l0.length:Int) == (l1.length:Int))=false:=beq_eq_false_iff_ne.mpr c3
 have c3b1:((l0.length:Int) != (l1.length:Int))=true:=bne_iff_ne.mpr c3
 have c3b2:(l0.length == l1.length)=false:=by first | simpa using c3 | (simp at c3 ⊢;omega)
 obtain rfl:=Option.some.inj H
 go_enter Try.func65,Try.ntmps65
 go_wp2
 repeat (go_quiet (fail);try go_wp2)
 go_ret
 exact ⟨by first | rfl | (simp;done) | (simp[*];done),by repeat (first | exact Drawn0.refl _ | apply Drawn0.step)⟩
end Go.Proofs.Ytiogdomjmjiahaa.QA
