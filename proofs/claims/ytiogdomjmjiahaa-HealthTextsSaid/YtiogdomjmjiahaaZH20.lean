/- HtC, pruned (slim.py). -/
import Derived.Test.YtiogdomjmjiahaaZH19
namespace Go.Proofs.Ytiogdomjmjiahaa.Own
open Go.RowKit Go.Proofs.Ytiogdomjmjiahaa.Arr Go.Proofs.Ytiogdomjmjiahaa.QA Go.Proofs.Ytiogdomjmjiahaa.QB Go.Proofs.YtiogdomjmjiahaaW.PrintWords Go.Proofs.YtiogdomjmjiahaaW.PrintLast Go.Proofs.YtiogdomjmjiahaaW.PrintMore
set_option linter.unusedVariables false
set_option linter.unusedSimpArgs false
set_option maxRecDepth 100000 in
def rT4 (E:List Int) (f:Nat→Int) (X:List Int):List Int:=((((((((((X++(([10,98,108,111,99,107,115]:List Int) ++ [32]))++numLs ((E.length:Nat):Int))++(([32,98,97,100]:List Int) ++ [32]))++numLs (f 1))++(([32,103,111,110,101]:List Int) ++ [32]))++numLs (f 2))++(([32,108,101,97,107,105,110,103]:List Int) ++ [32]))++numLs (f 3))++(([32,99,108,101,97,110]:List Int) ++ [32]))++numLs (f 4))
set_option maxRecDepth 100000 in
def rT5 (f:Nat→Int) (X:List Int):List Int:=(((((((((X++(([32,104,101,108,100]:List Int) ++ [32]))++numLs (f 5))++(([32,100,105,114,116,121]:List Int) ++ [32]))++numLs (f 6))++(([32,102,114,101,101]:List Int) ++ [32]))++numLs (f 7))++(([32,115,112,97,114,101]:List Int) ++ [32]))++numLs (f 8))++([10,101,114,97,115,101,115]:List Int))
set_option maxRecDepth 100000 in
def rTs (p:Nat→Nat→Int) (j:Nat) (X:List Int):List Int:=(((((((((((((X++(([110,115]:List Int) ++ [32]))++numLs (j:Int))++(([32,115,105,122,101]:List Int) ++ [32]))++numLs (p j 1))++(([32,100,97,116,97]:List Int) ++ [32]))++numLs (p j 2))++(([32,116,114,105,109,109,101,100]:List Int) ++ [32]))++numLs (p j 3))++(([32,98,108,111,99,107,115]:List Int) ++ [32]))++numLs (p j 4))++(([32,115,116,97,108,101]:List Int) ++ [32]))++numLs (p j 5))++([10]:List Int))
def rSp (b:Nat→Bool) (p:Nat→Nat→Int):Nat→List Int→List Int
 |0,X=>X
 |k+1,X=>if b k=true then rTs p k (rSp b p k X) else rSp b p k X
def rtL (E:List Int) (f:Nat→Int) (b:Nat→Bool) (p:Nat→Nat→Int) (e u:Nat) (ro:Bool):List Int:=rSp b p 4 (rT5 f (rT4 E f (hdL e u++roL ro))++eL E ++ [10])
set_option maxRecDepth 100000 in
theorem rTs_len (p:Nat→Nat→Int) (j:Nat) (X:List Int):(rTs p j X).length≤X.length+300:=by
 have:=numLs_len (j:Int)
 have:=numLs_len (p j 1)
 have:=numLs_len (p j 2)
 have:=numLs_len (p j 3)
 have:=numLs_len (p j 4)
 have:=numLs_len (p j 5)
 unfold rTs
 simp only[List.length_append]
 simp only[List.length_cons,List.length_nil]
 omega
theorem rSp_len (b:Nat→Bool) (p:Nat→Nat→Int) (k:Nat) (X:List Int):(rSp b p k X).length≤X.length+k*300:=by
 induction k with
 |zero=>exact Nat.le_refl _
 |succ k ih=>
  rw[rSp,Nat.succ_mul]
  split
  ·exact Nat.le_trans (rTs_len p k _) (by rw[← Nat.add_assoc];exact Nat.add_le_add_right ih 300)
  exact Nat.le_trans ih (Nat.add_le_add_left (Nat.le_add_right _ _) _)
theorem rTs_app (p:Nat→Nat→Int) (j:Nat) (X:List Int):rTs p j X=X++rTs p j []:=by
 unfold rTs
 simp only[List.append_assoc,List.nil_append]
set_option maxHeartbeats 2000000 in
set_option maxRecDepth 100000 in
theorem tail_eq (p:Nat→Nat→Int) (j:Nat) : [10]++rTs p j []=spT p j ++ [10]:=by
 unfold rTs spT
 rw[show ([10,110,115]:List Int)=[10] ++ [110,115] from rfl]
 simp only[List.nil_append,List.append_assoc]
theorem rSp_eq (b:Nat→Bool) (p:Nat→Nat→Int) (k:Nat) (X:List Int):rSp b p k (X ++ [10])=X++sL b p k ++ [10]:=by
 induction k with
 |zero=>rw[rSp,sL_zero,List.append_nil]
 |succ k ih=>
  rw[rSp,sL_succ,ih]
  split
  ·rw[rTs_app,List.append_assoc,tail_eq];simp only[List.append_assoc]
  rw[List.append_nil]
set_option maxHeartbeats 2000000 in
set_option maxRecDepth 100000 in
theorem rT45 (E:List Int) (f:Nat→Int) (Y:List Int):rT5 f (rT4 E f Y)=(((((((((Y)++([10,98,108,111,99,107,115] ++ [32]++numLs ((E.length:Nat):Int)))++([32,98,97,100] ++ [32]++numLs (f 1)))++([32,103,111,110,101] ++ [32]++numLs (f 2)))++([32,108,101,97,107,105,110,103] ++ [32]++numLs (f 3)))++([32,99,108,101,97,110] ++ [32]++numLs (f 4)))++([32,104,101,108,100] ++ [32]++numLs (f 5)))++([32,100,105,114,116,121] ++ [32]++numLs (f 6)))++([32,102,114,101,101] ++ [32]++numLs (f 7)))++([32,115,112,97,114,101] ++ [32]++numLs (f 8))++TEr:=by
 unfold rT5 rT4 TEr
 simp only[List.append_assoc]
set_option maxHeartbeats 2000000 in
set_option maxRecDepth 100000 in
theorem rtL_eq (E:List Int) (f:Nat→Int) (b:Nat→Bool) (p:Nat→Nat→Int) (e u:Nat) (ro:Bool):rtL E f b p e u ro=htL E f b p e u ro:=by
 unfold rtL htL
 rw[rSp_eq,rT45]
theorem infoSq:(Try.prog.info? 48).map (fun i=>(i.zero,i.size))=some (some (.agg zSp),6):=by kernel_rfl
theorem space_range {b:Nat→Bool} {p:Nat→Nat→Int} {w:World} {g:Nat} (h:w.rangeAt g 9 (spaces b p)) (j:Nat) (hj:j<4):w.rangeAt g (9+j*6) (spacl b p j):=fun i v hi=>by
 have hlt:i<6:=by have:=(List.getElem?_eq_some_iff.1 hi).1;simpa using this
 have e:(spaces b p)[j*6+i]?=(spacl b p j)[i]?:=by
  match j,hj with
  |0,_=>rw[Nat.zero_mul,Nat.zero_add];exact List.getElem?_append_left (by simp;omega)
  |1,_=>rw[show 1*6+i=(spacl b p 0).length+i from rfl,List.getElem?_append_right (by omega),Nat.add_sub_cancel_left];exact List.getElem?_append_left (by simp;omega)
  |2,_=>rw[show 2*6+i=(spacl b p 0).length+((spacl b p 1).length+i) by simp;omega,List.getElem?_append_right (by omega),Nat.add_sub_cancel_left,List.getElem?_append_right (by omega),Nat.add_sub_cancel_left];exact List.getElem?_append_left (by simp;omega)
  |3,_=>rw[show 3*6+i=(spacl b p 0).length+((spacl b p 1).length+((spacl b p 2).length+i)) by simp;omega,List.getElem?_append_right (by omega),Nat.add_sub_cancel_left,List.getElem?_append_right (by omega),Nat.add_sub_cancel_left,List.getElem?_append_right (by omega),Nat.add_sub_cancel_left]
 have:=h (j*6+i) v (e.trans hi)
 rw[Nat.add_assoc]
 exact this
set_option maxHeartbeats 16000000 in
set_option maxRecDepth 100000 in
theorem rtext_any (A:Option Addr) (c:Nat) (E:List Int) (f:Nat→Int) (b:Nat→Bool) (p:Nat→Nat→Int) (e u:Nat) (he:e<18446744073709551616) (hu:u<18446744073709551616) (ro:Bool) (w:World) (hf:∀ k,-9223372036854775808≤f k∧f k<9223372036854775808) (hE0:E.length≤10000) (hA0:Kd.C (Kd.int .i64) w A E.length E) (hEr0:∀ k,-9223372036854775808≤E.getD k 0∧E.getD k 0<9223372036854775808) (hp:∀ j k,-9223372036854775808≤p j k∧p j k<9223372036854775808) :
  Calls Try.prog 28 #[.agg (repc A E.length c f b p e u ro)] w fun e_ w'=>e_=.returned (.string (strOfNums (htL E f b p e u ro)))∧Below w.heap.size w w':=by
 have hde:=Lib.hid (fun w1=>nepentheref32_Digits.calls 30 (e:Int) (decS e) w1 (refDigits_eq e he 0))
 have hdu:=Lib.hid (fun w1=>nepentheref32_Digits.calls 30 (u:Int) (decS u) w1 (refDigits_eq u hu 0))
 have hdl:=decL_len e
 have hdm:=decL_len u
 obtain ⟨D1,hD1⟩:∃ S,S=strOfNums (decL e):=⟨_,rfl⟩
 obtain ⟨D2,hD2⟩:∃ S,S=strOfNums (T0++decL e):=⟨_,rfl⟩
 obtain ⟨D3,hD3⟩:∃ S,S=strOfNums (T0++decL e++T2):=⟨_,rfl⟩
 obtain ⟨D4,hD4⟩:∃ S,S=strOfNums (decL u):=⟨_,rfl⟩
 obtain ⟨D5,hD5⟩:∃ S,S=strOfNums (hdL e u):=⟨_,rfl⟩
 have x1:=Lib.hid (show ∀ W:World,(binOp .add 9 (.string { data:=#[101,112,111,99,104,32] }) (.string D1)).run Try.prog W=.ok (.string D2) W by rw[hD1,hD2];exact fun W=>str_add W T0 (decL e) (by unfold T0;simp;omega))
 have x2:=Lib.hid (show ∀ W:World,(binOp .add 9 (.string D2) (.string { data:=#[32,99,111,117,110,116,101,114,32] })).run Try.prog W=.ok (.string D3) W by rw[hD2,hD3];exact fun W=>str_add W (T0++decL e) T2 (by unfold T0 T2;simp;omega))
 have x3:=Lib.hid (show ∀ W:World,(binOp .add 9 (.string D3) (.string D4)).run Try.prog W=.ok (.string D5) W by rw[hD3,hD4,hD5];exact fun W=>str_add W (T0++decL e++T2) (decL u) (by unfold T0 T2;simp;omega))
 have hD6:=Lib.hid (show D5 ++ { data:=#[32,114,101,97,100,111,110,108,121] }=strOfNums (hdL e u++TRo) by rw[hD5,str_app];rfl)
 have hz5:D5.size+9≤9223372036854775807:=by rw[hD5,strOfNums_size];have:=hdL_len e u;omega
 have hD5':=Lib.hid hD5
 rw[show decS e=D1 from hD1.symm] at hde
 rw[show decS u=D4 from hD4.symm] at hdu
 obtain ⟨M0,hM0⟩:∃ M,M=hdL e u++roL ro:=⟨_,rfl⟩
 obtain ⟨S0,hS0⟩:∃ S,S=strOfNums M0:=⟨_,rfl⟩
 have l0:M0.length≤100:=by rw[hM0];have:=hdL_len e u;cases ro <;> simp[roL,TRo] <;> omega
 have hS0':=Lib.hid hS0
 have hM0':=Lib.hid hM0
 obtain ⟨M1,hM1⟩:∃ M,M=M0++([10,98,108,111,99,107,115,32]:List Int):=⟨_,rfl⟩
 obtain ⟨S1,hS1⟩:∃ S,S=strOfNums M1:=⟨_,rfl⟩
 have a1:=Lib.hid (show ∀ W:World,(binOp .add 9 (.string S0) (.string { data:=#[10,98,108,111,99,107,115,32] })).run Try.prog W=.ok (.string S1) W by rw[hS0,hS1,hM1];exact fun W=>str_add W M0 ([10,98,108,111,99,107,115,32]:List Int) (by simp only[List.length_cons,List.length_nil];omega))
 have l1:M1.length≤108:=by rw[hM1,List.length_append];simp only[List.length_cons,List.length_nil];omega
 obtain ⟨N2,hN2⟩:∃ S,S=strOfNums (numLs ((E.length:Nat):Int)):=⟨_,rfl⟩
 have c2:=Lib.hid (fun W=>nepentheref32_Number.calls 30 ((E.length:Nat):Int) (numS ((E.length:Nat):Int)) W (refNumber_eq ((E.length:Nat):Int) (by omega) (by omega) 0))
 rw[show numS ((E.length:Nat):Int)=N2 from hN2.symm] at c2
 have v2:=numLs_len ((E.length:Nat):Int)
 obtain ⟨M2,hM2⟩:∃ M,M=M1++(numLs ((E.length:Nat):Int)):=⟨_,rfl⟩
 obtain ⟨S2,hS2⟩:∃ S,S=strOfNums M2:=⟨_,rfl⟩
 have a2:=Lib.hid (show ∀ W:World,(binOp .add 9 (.string S1) (.string N2)).run Try.prog W=.ok (.string S2) W by rw[hS1,hS2,hM2];rw[hN2];exact fun W=>str_add W M1 (numLs ((E.length:Nat):Int)) (by omega))
 have l2:M2.length≤129:=by rw[hM2,List.length_append];omega
 obtain ⟨M3,hM3⟩:∃ M,M=M2++([32,98,97,100,32]:List Int):=⟨_,rfl⟩
 obtain ⟨S3,hS3⟩:∃ S,S=strOfNums M3:=⟨_,rfl⟩
 have a3:=Lib.hid (show ∀ W:World,(binOp .add 9 (.string S2) (.string { data:=#[32,98,97,100,32] })).run Try.prog W=.ok (.string S3) W by rw[hS2,hS3,hM3];exact fun W=>str_add W M2 ([32,98,97,100,32]:List Int) (by simp only[List.length_cons,List.length_nil];omega))
 have l3:M3.length≤134:=by rw[hM3,List.length_append];simp only[List.length_cons,List.length_nil];omega
 obtain ⟨N4,hN4⟩:∃ S,S=strOfNums (numLs (f 1)):=⟨_,rfl⟩
 have c4:=Lib.hid (fun W=>nepentheref32_Number.calls 30 (f 1) (numS (f 1)) W (refNumber_eq (f 1) (hf 1).1 (hf 1).2 0))
 rw[show numS (f 1)=N4 from hN4.symm] at c4
 have v4:=numLs_len (f 1)
 obtain ⟨M4,hM4⟩:∃ M,M=M3++(numLs (f 1)):=⟨_,rfl⟩
 obtain ⟨S4,hS4⟩:∃ S,S=strOfNums M4:=⟨_,rfl⟩
 have a4:=Lib.hid (show ∀ W:World,(binOp .add 9 (.string S3) (.string N4)).run Try.prog W=.ok (.string S4) W by rw[hS3,hS4,hM4];rw[hN4];exact fun W=>str_add W M3 (numLs (f 1)) (by omega))
 have l4:M4.length≤155:=by rw[hM4,List.length_append];omega
 obtain ⟨M5,hM5⟩:∃ M,M=M4++([32,103,111,110,101,32]:List Int):=⟨_,rfl⟩
 obtain ⟨S5,hS5⟩:∃ S,S=strOfNums M5:=⟨_,rfl⟩
 have a5:=Lib.hid (show ∀ W:World,(binOp .add 9 (.string S4) (.string { data:=#[32,103,111,110,101,32] })).run Try.prog W=.ok (.string S5) W by rw[hS4,hS5,hM5];exact fun W=>str_add W M4 ([32,103,111,110,101,32]:List Int) (by simp only[List.length_cons,List.length_nil];omega))
 have l5:M5.length≤161:=by rw[hM5,List.length_append];simp only[List.length_cons,List.length_nil];omega
 obtain ⟨N6,hN6⟩:∃ S,S=strOfNums (numLs (f 2)):=⟨_,rfl⟩
 have c6:=Lib.hid (fun W=>nepentheref32_Number.calls 30 (f 2) (numS (f 2)) W (refNumber_eq (f 2) (hf 2).1 (hf 2).2 0))
 rw[show numS (f 2)=N6 from hN6.symm] at c6
 have v6:=numLs_len (f 2)
 obtain ⟨M6,hM6⟩:∃ M,M=M5++(numLs (f 2)):=⟨_,rfl⟩
 obtain ⟨S6,hS6⟩:∃ S,S=strOfNums M6:=⟨_,rfl⟩
 have a6:=Lib.hid (show ∀ W:World,(binOp .add 9 (.string S5) (.string N6)).run Try.prog W=.ok (.string S6) W by rw[hS5,hS6,hM6];rw[hN6];exact fun W=>str_add W M5 (numLs (f 2)) (by omega))
 have l6:M6.length≤182:=by rw[hM6,List.length_append];omega
 obtain ⟨M7,hM7⟩:∃ M,M=M6++([32,108,101,97,107,105,110,103,32]:List Int):=⟨_,rfl⟩
 obtain ⟨S7,hS7⟩:∃ S,S=strOfNums M7:=⟨_,rfl⟩
 have a7:=Lib.hid (show ∀ W:World,(binOp .add 9 (.string S6) (.string { data:=#[32,108,101,97,107,105,110,103,32] })).run Try.prog W=.ok (.string S7) W by rw[hS6,hS7,hM7];exact fun W=>str_add W M6 ([32,108,101,97,107,105,110,103,32]:List Int) (by simp only[List.length_cons,List.length_nil];omega))
 have l7:M7.length≤191:=by rw[hM7,List.length_append];simp only[List.length_cons,List.length_nil];omega
 obtain ⟨N8,hN8⟩:∃ S,S=strOfNums (numLs (f 3)):=⟨_,rfl⟩
 have c8:=Lib.hid (fun W=>nepentheref32_Number.calls 30 (f 3) (numS (f 3)) W (refNumber_eq (f 3) (hf 3).1 (hf 3).2 0))
 rw[show numS (f 3)=N8 from hN8.symm] at c8
 have v8:=numLs_len (f 3)
 obtain ⟨M8,hM8⟩:∃ M,M=M7++(numLs (f 3)):=⟨_,rfl⟩
 obtain ⟨S8,hS8⟩:∃ S,S=strOfNums M8:=⟨_,rfl⟩
 have a8:=Lib.hid (show ∀ W:World,(binOp .add 9 (.string S7) (.string N8)).run Try.prog W=.ok (.string S8) W by rw[hS7,hS8,hM8];rw[hN8];exact fun W=>str_add W M7 (numLs (f 3)) (by omega))
 have l8:M8.length≤212:=by rw[hM8,List.length_append];omega
 obtain ⟨M9,hM9⟩:∃ M,M=M8++([32,99,108,101,97,110,32]:List Int):=⟨_,rfl⟩
 obtain ⟨S9,hS9⟩:∃ S,S=strOfNums M9:=⟨_,rfl⟩
 have a9:=Lib.hid (show ∀ W:World,(binOp .add 9 (.string S8) (.string { data:=#[32,99,108,101,97,110,32] })).run Try.prog W=.ok (.string S9) W by rw[hS8,hS9,hM9];exact fun W=>str_add W M8 ([32,99,108,101,97,110,32]:List Int) (by simp only[List.length_cons,List.length_nil];omega))
 have l9:M9.length≤219:=by rw[hM9,List.length_append];simp only[List.length_cons,List.length_nil];omega
 obtain ⟨N10,hN10⟩:∃ S,S=strOfNums (numLs (f 4)):=⟨_,rfl⟩
 have c10:=Lib.hid (fun W=>nepentheref32_Number.calls 30 (f 4) (numS (f 4)) W (refNumber_eq (f 4) (hf 4).1 (hf 4).2 0))
 rw[show numS (f 4)=N10 from hN10.symm] at c10
 have v10:=numLs_len (f 4)
 obtain ⟨M10,hM10⟩:∃ M,M=M9++(numLs (f 4)):=⟨_,rfl⟩
 obtain ⟨S10,hS10⟩:∃ S,S=strOfNums M10:=⟨_,rfl⟩
 have a10:=Lib.hid (show ∀ W:World,(binOp .add 9 (.string S9) (.string N10)).run Try.prog W=.ok (.string S10) W by rw[hS9,hS10,hM10];rw[hN10];exact fun W=>str_add W M9 (numLs (f 4)) (by omega))
 have l10:M10.length≤240:=by rw[hM10,List.length_append];omega
 obtain ⟨M11,hM11⟩:∃ M,M=M10++([32,104,101,108,100,32]:List Int):=⟨_,rfl⟩
 obtain ⟨S11,hS11⟩:∃ S,S=strOfNums M11:=⟨_,rfl⟩
 have a11:=Lib.hid (show ∀ W:World,(binOp .add 9 (.string S10) (.string { data:=#[32,104,101,108,100,32] })).run Try.prog W=.ok (.string S11) W by rw[hS10,hS11,hM11];exact fun W=>str_add W M10 ([32,104,101,108,100,32]:List Int) (by simp only[List.length_cons,List.length_nil];omega))
 have l11:M11.length≤246:=by rw[hM11,List.length_append];simp only[List.length_cons,List.length_nil];omega
 obtain ⟨N12,hN12⟩:∃ S,S=strOfNums (numLs (f 5)):=⟨_,rfl⟩
 have c12:=Lib.hid (fun W=>nepentheref32_Number.calls 30 (f 5) (numS (f 5)) W (refNumber_eq (f 5) (hf 5).1 (hf 5).2 0))
 rw[show numS (f 5)=N12 from hN12.symm] at c12
 have v12:=numLs_len (f 5)
 obtain ⟨M12,hM12⟩:∃ M,M=M11++(numLs (f 5)):=⟨_,rfl⟩
 obtain ⟨S12,hS12⟩:∃ S,S=strOfNums M12:=⟨_,rfl⟩
 have a12:=Lib.hid (show ∀ W:World,(binOp .add 9 (.string S11) (.string N12)).run Try.prog W=.ok (.string S12) W by rw[hS11,hS12,hM12];rw[hN12];exact fun W=>str_add W M11 (numLs (f 5)) (by omega))
 have l12:M12.length≤267:=by rw[hM12,List.length_append];omega
 obtain ⟨M13,hM13⟩:∃ M,M=M12++([32,100,105,114,116,121,32]:List Int):=⟨_,rfl⟩
 obtain ⟨S13,hS13⟩:∃ S,S=strOfNums M13:=⟨_,rfl⟩
 have a13:=Lib.hid (show ∀ W:World,(binOp .add 9 (.string S12) (.string { data:=#[32,100,105,114,116,121,32] })).run Try.prog W=.ok (.string S13) W by rw[hS12,hS13,hM13];exact fun W=>str_add W M12 ([32,100,105,114,116,121,32]:List Int) (by simp only[List.length_cons,List.length_nil];omega))
 have l13:M13.length≤274:=by rw[hM13,List.length_append];simp only[List.length_cons,List.length_nil];omega
 obtain ⟨N14,hN14⟩:∃ S,S=strOfNums (numLs (f 6)):=⟨_,rfl⟩
 have c14:=Lib.hid (fun W=>nepentheref32_Number.calls 30 (f 6) (numS (f 6)) W (refNumber_eq (f 6) (hf 6).1 (hf 6).2 0))
 rw[show numS (f 6)=N14 from hN14.symm] at c14
 have v14:=numLs_len (f 6)
 obtain ⟨M14,hM14⟩:∃ M,M=M13++(numLs (f 6)):=⟨_,rfl⟩
 obtain ⟨S14,hS14⟩:∃ S,S=strOfNums M14:=⟨_,rfl⟩
 have a14:=Lib.hid (show ∀ W:World,(binOp .add 9 (.string S13) (.string N14)).run Try.prog W=.ok (.string S14) W by rw[hS13,hS14,hM14];rw[hN14];exact fun W=>str_add W M13 (numLs (f 6)) (by omega))
 have l14:M14.length≤295:=by rw[hM14,List.length_append];omega
 obtain ⟨M15,hM15⟩:∃ M,M=M14++([32,102,114,101,101,32]:List Int):=⟨_,rfl⟩
 obtain ⟨S15,hS15⟩:∃ S,S=strOfNums M15:=⟨_,rfl⟩
 have a15:=Lib.hid (show ∀ W:World,(binOp .add 9 (.string S14) (.string { data:=#[32,102,114,101,101,32] })).run Try.prog W=.ok (.string S15) W by rw[hS14,hS15,hM15];exact fun W=>str_add W M14 ([32,102,114,101,101,32]:List Int) (by simp only[List.length_cons,List.length_nil];omega))
 have l15:M15.length≤301:=by rw[hM15,List.length_append];simp only[List.length_cons,List.length_nil];omega
 obtain ⟨N16,hN16⟩:∃ S,S=strOfNums (numLs (f 7)):=⟨_,rfl⟩
 have c16:=Lib.hid (fun W=>nepentheref32_Number.calls 30 (f 7) (numS (f 7)) W (refNumber_eq (f 7) (hf 7).1 (hf 7).2 0))
 rw[show numS (f 7)=N16 from hN16.symm] at c16
 have v16:=numLs_len (f 7)
 obtain ⟨M16,hM16⟩:∃ M,M=M15++(numLs (f 7)):=⟨_,rfl⟩
 obtain ⟨S16,hS16⟩:∃ S,S=strOfNums M16:=⟨_,rfl⟩
 have a16:=Lib.hid (show ∀ W:World,(binOp .add 9 (.string S15) (.string N16)).run Try.prog W=.ok (.string S16) W by rw[hS15,hS16,hM16];rw[hN16];exact fun W=>str_add W M15 (numLs (f 7)) (by omega))
 have l16:M16.length≤322:=by rw[hM16,List.length_append];omega
 obtain ⟨M17,hM17⟩:∃ M,M=M16++([32,115,112,97,114,101,32]:List Int):=⟨_,rfl⟩
 obtain ⟨S17,hS17⟩:∃ S,S=strOfNums M17:=⟨_,rfl⟩
 have a17:=Lib.hid (show ∀ W:World,(binOp .add 9 (.string S16) (.string { data:=#[32,115,112,97,114,101,32] })).run Try.prog W=.ok (.string S17) W by rw[hS16,hS17,hM17];exact fun W=>str_add W M16 ([32,115,112,97,114,101,32]:List Int) (by simp only[List.length_cons,List.length_nil];omega))
 have l17:M17.length≤329:=by rw[hM17,List.length_append];simp only[List.length_cons,List.length_nil];omega
 obtain ⟨N18,hN18⟩:∃ S,S=strOfNums (numLs (f 8)):=⟨_,rfl⟩
 have c18:=Lib.hid (fun W=>nepentheref32_Number.calls 30 (f 8) (numS (f 8)) W (refNumber_eq (f 8) (hf 8).1 (hf 8).2 0))
 rw[show numS (f 8)=N18 from hN18.symm] at c18
 have v18:=numLs_len (f 8)
 obtain ⟨M18,hM18⟩:∃ M,M=M17++(numLs (f 8)):=⟨_,rfl⟩
 obtain ⟨S18,hS18⟩:∃ S,S=strOfNums M18:=⟨_,rfl⟩
 have a18:=Lib.hid (show ∀ W:World,(binOp .add 9 (.string S17) (.string N18)).run Try.prog W=.ok (.string S18) W by rw[hS17,hS18,hM18];rw[hN18];exact fun W=>str_add W M17 (numLs (f 8)) (by omega))
 have l18:M18.length≤350:=by rw[hM18,List.length_append];omega
 obtain ⟨M19,hM19⟩:∃ M,M=M18++([10,101,114,97,115,101,115]:List Int):=⟨_,rfl⟩
 obtain ⟨S19,hS19⟩:∃ S,S=strOfNums M19:=⟨_,rfl⟩
 have a19:=Lib.hid (show ∀ W:World,(binOp .add 9 (.string S18) (.string { data:=#[10,101,114,97,115,101,115] })).run Try.prog W=.ok (.string S19) W by rw[hS18,hS19,hM19];exact fun W=>str_add W M18 ([10,101,114,97,115,101,115]:List Int) (by simp only[List.length_cons,List.length_nil];omega))
 have l19:M19.length≤357:=by rw[hM19,List.length_append];simp only[List.length_cons,List.length_nil];omega
 have hMy:=Lib.hid (show M19=rT5 f (rT4 E f M0) by rw[hM19,hM18,hM17,hM16,hM15,hM14,hM13,hM12,hM11,hM10,hM9,hM8,hM7,hM6,hM5,hM4,hM3,hM2,hM1];rfl)
 have hSy:=Lib.hid hS19
 have hly:=Lib.hid l19
 have hf':=Lib.hid hf
 have hp':=Lib.hid hp
 have hE:=Lib.hid hE0
 have hA:=Lib.hid hA0
 have hEr:=Lib.hid hEr0
 obtain ⟨CS,hCS⟩:∃ CS,CS=repc A E.length c f b p e u ro:=⟨_,rfl⟩
 have hcell:=Lib.hid (show ∀ (W:World) (g:Nat),W.heap[g]?=some (.cells CS 51 (0,0))→_ from fun W g h=>rep_cells (by rw[hCS] at h;exact h))
 have hsp:=Lib.hid (show ∀ (W:World) (g:Nat),W.heap[g]?=some (.cells CS 51 (0,0))→W.rangeAt g 9 (spaces b p) from fun W g h=>rep_spaces (by rw[hCS] at h;exact h))
 obtain ⟨W1,hW1⟩:∃ W1,W1=w.alloc (.cells CS 51 (0,0)):=⟨_,rfl⟩
 have g1:=Lib.hid (show W1.heap[w.heap.size]?=some (.cells CS 51 (0,0)) by rw[hW1];exact heap_alloc_last _ _)
 have b1:=Lib.hid (show Below w.heap.size w W1 by rw[hW1];exact (Below.refl w.heap.size w).alloc (Nat.le_refl _) _)
 rw[← hCS]
 clear hD1 hD2 hD3 hD4 hD5 he hu hdl hdm hCS hM0 hS0 l0 hf hp hE0 hA0 hEr0 hM1 hS1 l1 hM2 hS2 l2 hM3 hS3 l3 hM4 hS4 l4 hM5 hS5 l5 hM6 hS6 l6 hM7 hS7 l7 hM8 hS8 l8 hM9 hS9 l9 hM10 hS10 l10 hM11 hS11 l11 hM12 hS12 l12 hM13 hS13 l13 hM14 hS14 l14 hM15 hS15 l15 hM16 hS16 l16 hM17 hS17 l17 hM18 hS18 l18 hM19 hS19 l19 hN2 v2 hN4 v4 hN6 v6 hN8 v8 hN10 v10 hN12 v12 hN14 v14 hN16 v16 hN18 v18
 go_enter Try.func28,Try.ntmps28
 go_upto_region 1 with fail
 rw[← hW1]
 clear hW1
 refine start_ (n:=10) (S:=fun w'=>Below w.heap.size w w'∧w'.heap[w.heap.size]?=some (.cells CS 51 (0,0))) (ds:=[]) #[false,false,false,false,false,false,false,false,false,false] (by kernel_rfl) rfl rfl (by exact ⟨below_drew b1.out,g1.out⟩) (fun hHeld=>?_)
 refine pure_ (i:=0) (N:=some 7) (v:=?_) (a':=?_) #[true,false,false,false,false,false,false,false,false,false] rfl rfl (by kernel_rfl) (fun _ _ _ h=>h) (Or.inl ⟨by rfl,?_⟩) ?_ ?_
 rotate_left
 ·intro w';go_simp;with_reducible rfl
 rotate_left
 ·simp only[Act.put,sZ0,sZ1,sZ2,i64_w,i32_w];rfl
 refine take_ (i:=1) (N:=some 8) (v:=?_) (a':=?_) #[true,true,false,false,false,false,false,false,false,false] rfl rfl (by kernel_rfl) (fun _ _ _ h=>h) (Or.inl ⟨by rfl,?_⟩) hHeld ?_ ?_
 rotate_left
 ·intro w' hS
  have hq:=(hcell.out w' _ hS.2).2.2.2.2.2.2.2.2.2.1
  go_simp;with_reducible rfl
 rotate_left
 ·simp only[Act.put,sZ0,sZ1,sZ2,i64_w,i32_w];rfl
 refine pure_ (i:=5) (N:=some 12) (v:=?_) (a':=?_) #[true,true,false,false,false,true,false,false,false,false] rfl rfl (by kernel_rfl) (fun _ _ _ h=>h) (Or.inl ⟨by rfl,?_⟩) ?_ ?_
 rotate_left
 ·intro w';go_simp;with_reducible rfl
 rotate_left
 ·simp only[Act.put,sZ0,sZ1,sZ2,i64_w,i32_w];rfl
 refine take_ (i:=6) (N:=some 13) (v:=?_) (a':=?_) #[true,true,false,false,false,true,true,false,false,false] rfl rfl (by kernel_rfl) (fun _ _ _ h=>h) (Or.inl ⟨by rfl,?_⟩) hHeld ?_ ?_
 rotate_left
 ·intro w' hS
  have hq:=(hcell.out w' _ hS.2).2.2.2.2.2.2.2.2.2.2.1
  go_simp;with_reducible rfl
 rotate_left
 ·simp only[Act.put,sZ0,sZ1,sZ2,i64_w,i32_w];rfl
 refine one_ (i:=2) (N:=some 9) #[true,true,true,false,false,true,true,false,false,false] rfl rfl (by kernel_rfl) (by decide) (fun K hK=>?_)
 refine goes_ Try.func64 (by kernel_rfl) rfl #[.int .u64 e] (by rfl) rfl rfl (by (try simp only[List.map_toArray,List.map_cons,List.map_nil]);first | done | rfl) ?_
 refine (hde.out _).mono ?_
 rintro e1 w2 ⟨rfl,hd⟩
 refine ⟨_,rfl,?_⟩
 refine hK.out _ _ ⟨below_step hHeld.1 hd.below,heap_below hHeld.2 hd.below⟩ (fun hHeld=>?_)
 clear hd
 clear hK K;refine norm_ (a':=?_) ?_ ?_
 rotate_left
 ·show Act.put _ (some 9) _=_
  simp only[Act.put,sZ0,sZ1,sZ2,i64_w,i32_w];rfl
 refine pure_ (i:=3) (N:=some 10) (v:=?_) (a':=?_) #[true,true,true,true,false,true,true,false,false,false] rfl rfl (by kernel_rfl) (fun _ _ _ h=>h) (Or.inl ⟨by rfl,?_⟩) ?_ ?_
 rotate_left
 ·intro w'
  refine (exec_add w' 9 _ _ _ (by rfl) (.string { data:=#[101,112,111,99,104,32] }) (.string D1) _ (by rfl) (by rfl) (x1.out w')).trans ?_;with_reducible rfl
 rotate_left
 ·simp only[Act.put,sZ0,sZ1,sZ2,i64_w,i32_w];rfl
 refine pure_ (i:=4) (N:=some 11) (v:=?_) (a':=?_) #[true,true,true,true,true,true,true,false,false,false] rfl rfl (by kernel_rfl) (fun _ _ _ h=>h) (Or.inl ⟨by rfl,?_⟩) ?_ ?_
 rotate_left
 ·intro w'
  refine (exec_add w' 9 _ _ _ (by rfl) (.string D2) (.string { data:=#[32,99,111,117,110,116,101,114,32] }) _ (by rfl) (by rfl) (x2.out w')).trans ?_;with_reducible rfl
 rotate_left
 ·simp only[Act.put,sZ0,sZ1,sZ2,i64_w,i32_w];rfl
 refine one_ (i:=7) (N:=some 14) #[true,true,true,true,true,true,true,true,false,false] rfl rfl (by kernel_rfl) (by decide) (fun K hK=>?_)
 refine goes_ Try.func64 (by kernel_rfl) rfl #[.int .u64 u] (by rfl) rfl rfl (by (try simp only[List.map_toArray,List.map_cons,List.map_nil]);first | done | rfl) ?_
 refine (hdu.out _).mono ?_
 rintro e1 w3 ⟨rfl,hd⟩
 refine ⟨_,rfl,?_⟩
 refine hK.out _ _ ⟨below_step hHeld.1 hd.below,heap_below hHeld.2 hd.below⟩ (fun hHeld=>?_)
 clear hd
 have b3:=Lib.hid hHeld.1
 have g3:=Lib.hid hHeld.2
 clear hK K;refine norm_ (a':=?_) ?_ ?_
 rotate_left
 ·show Act.put _ (some 14) _=_
  simp only[Act.put,sZ0,sZ1,sZ2,i64_w,i32_w];rfl
 refine pure_ (i:=8) (N:=some 15) (v:=?_) (a':=?_) #[true,true,true,true,true,true,true,true,true,false] rfl rfl (by kernel_rfl) (fun _ _ _ h=>h) (Or.inl ⟨by rfl,?_⟩) ?_ ?_
 rotate_left
 ·intro w'
  refine (exec_add w' 9 _ _ _ (by rfl) (.string D3) (.string D4) _ (by rfl) (by rfl) (x3.out w')).trans ?_;with_reducible rfl
 rotate_left
 ·simp only[Act.put,sZ0,sZ1,sZ2,i64_w,i32_w];rfl
 refine pure_ (i:=9) (N:=some 3) (v:=?_) (a':=?_) #[true,true,true,true,true,true,true,true,true,true] rfl rfl (by kernel_rfl) (fun _ _ _ h=>h) (Or.inl ⟨by rfl,?_⟩) ?_ ?_
 rotate_left
 ·intro w';go_simp;with_reducible rfl
 rotate_left
 ·simp only[Act.put,sZ0,sZ1,sZ2,i64_w,i32_w];rfl
 refine done_ (by kernel_rfl) ?_
 have q35:=(hcell.out w3 _ g3.out).2.2.2.2.2.2.2.2.2.2.2
 go_upto_region 2 with fail
 go_upto_if 17 with fail
 go_cut [3] (fun v w'=>v=.string S0∧w'=w3)
 case first=>
  cases ro
  ·have e0:D5=S0:=by rw[hS0'.out,hM0'.out,hD5'.out,show roL false=[] from rfl,List.append_nil]
   rw[e0]
   go_wp2_with fail
   go_meet
   exact ⟨rfl,rfl⟩
  have e0:D5 ++ { data:=#[32,114,101,97,100,111,110,108,121] }=S0:=by rw[hD6.out,hS0'.out,hM0'.out];rfl
  go_wp2_with fail
  go_meet
  exact ⟨by rw[← e0],rfl⟩
 case rest=>
  obtain ⟨rfl,hw⟩:=hcut
  obtain rfl:=hw.symm
  clear q35 hz5 hD6 hD5' x1 x2 x3 hde hdu b1 g1 hS0'
  go_upto_region 4 with fail
  refine start_ (n:=28) (S:=fun w'=>Below w.heap.size w w'∧w'.heap[w.heap.size]?=some (.cells CS 51 (0,0))) (ds:=[]) #[false,false,false,false,false,false,false,false,false,false,false,false,false,false,false,false,false,false,false,false,false,false,false,false,false,false,false,false] (by kernel_rfl) rfl rfl (by exact ⟨below_drew b3.out,g3.out⟩) (fun hHeld=>?_)
  refine pure_ (i:=0) (N:=some 20) (v:=?_) (a':=?_) #[true,false,false,false,false,false,false,false,false,false,false,false,false,false,false,false,false,false,false,false,false,false,false,false,false,false,false,false] rfl rfl (by kernel_rfl) (fun _ _ _ h=>h) (Or.inl ⟨by rfl,?_⟩) ?_ ?_
  rotate_left
  ·intro w';go_simp;with_reducible rfl
  rotate_left
  ·simp only[Act.put,sZ0,sZ1,sZ2,i64_w,i32_w];rfl
  refine pure_ (i:=1) (N:=some 21) (v:=?_) (a':=?_) #[true,true,false,false,false,false,false,false,false,false,false,false,false,false,false,false,false,false,false,false,false,false,false,false,false,false,false,false] rfl rfl (by kernel_rfl) (fun _ _ _ h=>h) (Or.inl ⟨by rfl,?_⟩) ?_ ?_
  rotate_left
  ·intro w'
   refine (exec_add w' 9 _ _ _ (by rfl) (.string S0) (.string { data:=#[10,98,108,111,99,107,115,32] }) _ (by rfl) (by rfl) (a1.out w')).trans ?_;with_reducible rfl
  rotate_left
  ·simp only[Act.put,sZ0,sZ1,sZ2,i64_w,i32_w];rfl
  refine pure_ (i:=2) (N:=some 22) (v:=?_) (a':=?_) #[true,true,true,false,false,false,false,false,false,false,false,false,false,false,false,false,false,false,false,false,false,false,false,false,false,false,false,false] rfl rfl (by kernel_rfl) (fun _ _ _ h=>h) (Or.inl ⟨by rfl,?_⟩) ?_ ?_
  rotate_left
  ·intro w';go_simp;with_reducible rfl
  rotate_left
  ·simp only[Act.put,sZ0,sZ1,sZ2,i64_w,i32_w];rfl
  refine take_ (i:=3) (N:=some 23) (v:=?_) (a':=?_) #[true,true,true,true,false,false,false,false,false,false,false,false,false,false,false,false,false,false,false,false,false,false,false,false,false,false,false,false] rfl rfl (by kernel_rfl) (fun _ _ _ h=>h) (Or.inl ⟨by rfl,?_⟩) hHeld ?_ ?_
  rotate_left
  ·intro w' hS
   have hq:=(hcell.out w' _ hS.2).1
   go_simp;with_reducible rfl
  rotate_left
  ·simp only[Act.put,sZ0,sZ1,sZ2,i64_w,i32_w];rfl
  refine pure_ (i:=4) (N:=some 24) (v:=?_) (a':=?_) #[true,true,true,true,true,false,false,false,false,false,false,false,false,false,false,false,false,false,false,false,false,false,false,false,false,false,false,false] rfl rfl (by kernel_rfl) (fun _ _ _ h=>h) (Or.inl ⟨by rfl,?_⟩) ?_ ?_
  rotate_left
  ·intro w';go_simp;with_reducible rfl
  rotate_left
  ·simp only[Act.put,sZ0,sZ1,sZ2,i64_w,i32_w];rfl
  refine pure_ (i:=8) (N:=some 28) (v:=?_) (a':=?_) #[true,true,true,true,true,false,false,false,true,false,false,false,false,false,false,false,false,false,false,false,false,false,false,false,false,false,false,false] rfl rfl (by kernel_rfl) (fun _ _ _ h=>h) (Or.inl ⟨by rfl,?_⟩) ?_ ?_
  rotate_left
  ·intro w';go_simp;with_reducible rfl
  rotate_left
  ·simp only[Act.put,sZ0,sZ1,sZ2,i64_w,i32_w];rfl
  refine take_ (i:=9) (N:=some 29) (v:=?_) (a':=?_) #[true,true,true,true,true,false,false,false,true,true,false,false,false,false,false,false,false,false,false,false,false,false,false,false,false,false,false,false] rfl rfl (by kernel_rfl) (fun _ _ _ h=>h) (Or.inl ⟨by rfl,?_⟩) hHeld ?_ ?_
  rotate_left
  ·intro w' hS
   have hq:=(hcell.out w' _ hS.2).2.1
   go_simp;with_reducible rfl
  rotate_left
  ·simp only[Act.put,sZ0,sZ1,sZ2,i64_w,i32_w];rfl
  refine pure_ (i:=13) (N:=some 33) (v:=?_) (a':=?_) #[true,true,true,true,true,false,false,false,true,true,false,false,false,true,false,false,false,false,false,false,false,false,false,false,false,false,false,false] rfl rfl (by kernel_rfl) (fun _ _ _ h=>h) (Or.inl ⟨by rfl,?_⟩) ?_ ?_
  rotate_left
  ·intro w';go_simp;with_reducible rfl
  rotate_left
  ·simp only[Act.put,sZ0,sZ1,sZ2,i64_w,i32_w];rfl
  refine take_ (i:=14) (N:=some 34) (v:=?_) (a':=?_) #[true,true,true,true,true,false,false,false,true,true,false,false,false,true,true,false,false,false,false,false,false,false,false,false,false,false,false,false] rfl rfl (by kernel_rfl) (fun _ _ _ h=>h) (Or.inl ⟨by rfl,?_⟩) hHeld ?_ ?_
  rotate_left
  ·intro w' hS
   have hq:=(hcell.out w' _ hS.2).2.2.1
   go_simp;with_reducible rfl
  rotate_left
  ·simp only[Act.put,sZ0,sZ1,sZ2,i64_w,i32_w];rfl
  refine pure_ (i:=18) (N:=some 38) (v:=?_) (a':=?_) #[true,true,true,true,true,false,false,false,true,true,false,false,false,true,true,false,false,false,true,false,false,false,false,false,false,false,false,false] rfl rfl (by kernel_rfl) (fun _ _ _ h=>h) (Or.inl ⟨by rfl,?_⟩) ?_ ?_
  rotate_left
  ·intro w';go_simp;with_reducible rfl
  rotate_left
  ·simp only[Act.put,sZ0,sZ1,sZ2,i64_w,i32_w];rfl
  refine take_ (i:=19) (N:=some 39) (v:=?_) (a':=?_) #[true,true,true,true,true,false,false,false,true,true,false,false,false,true,true,false,false,false,true,true,false,false,false,false,false,false,false,false] rfl rfl (by kernel_rfl) (fun _ _ _ h=>h) (Or.inl ⟨by rfl,?_⟩) hHeld ?_ ?_
  rotate_left
  ·intro w' hS
   have hq:=(hcell.out w' _ hS.2).2.2.2.1
   go_simp;with_reducible rfl
  rotate_left
  ·simp only[Act.put,sZ0,sZ1,sZ2,i64_w,i32_w];rfl
  refine pure_ (i:=23) (N:=some 43) (v:=?_) (a':=?_) #[true,true,true,true,true,false,false,false,true,true,false,false,false,true,true,false,false,false,true,true,false,false,false,true,false,false,false,false] rfl rfl (by kernel_rfl) (fun _ _ _ h=>h) (Or.inl ⟨by rfl,?_⟩) ?_ ?_
  rotate_left
  ·intro w';go_simp;with_reducible rfl
  rotate_left
  ·simp only[Act.put,sZ0,sZ1,sZ2,i64_w,i32_w];rfl
  refine take_ (i:=24) (N:=some 44) (v:=?_) (a':=?_) #[true,true,true,true,true,false,false,false,true,true,false,false,false,true,true,false,false,false,true,true,false,false,false,true,true,false,false,false] rfl rfl (by kernel_rfl) (fun _ _ _ h=>h) (Or.inl ⟨by rfl,?_⟩) hHeld ?_ ?_
  rotate_left
  ·intro w' hS
   have hq:=(hcell.out w' _ hS.2).2.2.2.2.1
   go_simp;with_reducible rfl
  rotate_left
  ·simp only[Act.put,sZ0,sZ1,sZ2,i64_w,i32_w];rfl
  refine one_ (i:=5) (N:=some 25) #[true,true,true,true,true,true,false,false,true,true,false,false,false,true,true,false,false,false,true,true,false,false,false,true,true,false,false,false] rfl rfl (by kernel_rfl) (by decide) (fun K hK=>?_)
  refine goes_ Try.func30 (by kernel_rfl) rfl #[.int .i64 ((E.length:Nat):Int)] (by rfl) rfl rfl (by (try simp only[List.map_toArray,List.map_cons,List.map_nil]);first | done | rfl) ?_
  refine (c2.out _).mono ?_
  rintro e1 w4 ⟨rfl,hd⟩
  refine ⟨_,rfl,?_⟩
  refine hK.out _ _ ⟨below_step hHeld.1 hd.below,heap_below hHeld.2 hd.below⟩ (fun hHeld=>?_)
  clear hd
  clear hK K;refine norm_ (a':=?_) ?_ ?_
  rotate_left
  ·show Act.put _ (some 25) _=_
   simp only[Act.put,sZ0,sZ1,sZ2,i64_w,i32_w];rfl
  refine pure_ (i:=6) (N:=some 26) (v:=?_) (a':=?_) #[true,true,true,true,true,true,true,false,true,true,false,false,false,true,true,false,false,false,true,true,false,false,false,true,true,false,false,false] rfl rfl (by kernel_rfl) (fun _ _ _ h=>h) (Or.inl ⟨by rfl,?_⟩) ?_ ?_
  rotate_left
  ·intro w'
   refine (exec_add w' 9 _ _ _ (by rfl) (.string S1) (.string N2) _ (by rfl) (by rfl) (a2.out w')).trans ?_;with_reducible rfl
  rotate_left
  ·simp only[Act.put,sZ0,sZ1,sZ2,i64_w,i32_w];rfl
  refine pure_ (i:=7) (N:=some 27) (v:=?_) (a':=?_) #[true,true,true,true,true,true,true,true,true,true,false,false,false,true,true,false,false,false,true,true,false,false,false,true,true,false,false,false] rfl rfl (by kernel_rfl) (fun _ _ _ h=>h) (Or.inl ⟨by rfl,?_⟩) ?_ ?_
  rotate_left
  ·intro w'
   refine (exec_add w' 9 _ _ _ (by rfl) (.string S2) (.string { data:=#[32,98,97,100,32] }) _ (by rfl) (by rfl) (a3.out w')).trans ?_;with_reducible rfl
  rotate_left
  ·simp only[Act.put,sZ0,sZ1,sZ2,i64_w,i32_w];rfl
  refine one_ (i:=10) (N:=some 30) #[true,true,true,true,true,true,true,true,true,true,true,false,false,true,true,false,false,false,true,true,false,false,false,true,true,false,false,false] rfl rfl (by kernel_rfl) (by decide) (fun K hK=>?_)
  refine goes_ Try.func30 (by kernel_rfl) rfl #[.int .i64 (f 1)] (by rfl) rfl rfl (by (try simp only[List.map_toArray,List.map_cons,List.map_nil]);first | done | rfl) ?_
  refine (c4.out _).mono ?_
  rintro e1 w4 ⟨rfl,hd⟩
  refine ⟨_,rfl,?_⟩
  refine hK.out _ _ ⟨below_step hHeld.1 hd.below,heap_below hHeld.2 hd.below⟩ (fun hHeld=>?_)
  clear hd
  clear hK K;refine norm_ (a':=?_) ?_ ?_
  rotate_left
  ·show Act.put _ (some 30) _=_
   simp only[Act.put,sZ0,sZ1,sZ2,i64_w,i32_w];rfl
  refine pure_ (i:=11) (N:=some 31) (v:=?_) (a':=?_) #[true,true,true,true,true,true,true,true,true,true,true,true,false,true,true,false,false,false,true,true,false,false,false,true,true,false,false,false] rfl rfl (by kernel_rfl) (fun _ _ _ h=>h) (Or.inl ⟨by rfl,?_⟩) ?_ ?_
  rotate_left
  ·intro w'
   refine (exec_add w' 9 _ _ _ (by rfl) (.string S3) (.string N4) _ (by rfl) (by rfl) (a4.out w')).trans ?_;with_reducible rfl
  rotate_left
  ·simp only[Act.put,sZ0,sZ1,sZ2,i64_w,i32_w];rfl
  refine pure_ (i:=12) (N:=some 32) (v:=?_) (a':=?_) #[true,true,true,true,true,true,true,true,true,true,true,true,true,true,true,false,false,false,true,true,false,false,false,true,true,false,false,false] rfl rfl (by kernel_rfl) (fun _ _ _ h=>h) (Or.inl ⟨by rfl,?_⟩) ?_ ?_
  rotate_left
  ·intro w'
   refine (exec_add w' 9 _ _ _ (by rfl) (.string S4) (.string { data:=#[32,103,111,110,101,32] }) _ (by rfl) (by rfl) (a5.out w')).trans ?_;with_reducible rfl
  rotate_left
  ·simp only[Act.put,sZ0,sZ1,sZ2,i64_w,i32_w];rfl
  refine one_ (i:=15) (N:=some 35) #[true,true,true,true,true,true,true,true,true,true,true,true,true,true,true,true,false,false,true,true,false,false,false,true,true,false,false,false] rfl rfl (by kernel_rfl) (by decide) (fun K hK=>?_)
  refine goes_ Try.func30 (by kernel_rfl) rfl #[.int .i64 (f 2)] (by rfl) rfl rfl (by (try simp only[List.map_toArray,List.map_cons,List.map_nil]);first | done | rfl) ?_
  refine (c6.out _).mono ?_
  rintro e1 w4 ⟨rfl,hd⟩
  refine ⟨_,rfl,?_⟩
  refine hK.out _ _ ⟨below_step hHeld.1 hd.below,heap_below hHeld.2 hd.below⟩ (fun hHeld=>?_)
  clear hd
  clear hK K;refine norm_ (a':=?_) ?_ ?_
  rotate_left
  ·show Act.put _ (some 35) _=_
   simp only[Act.put,sZ0,sZ1,sZ2,i64_w,i32_w];rfl
  refine pure_ (i:=16) (N:=some 36) (v:=?_) (a':=?_) #[true,true,true,true,true,true,true,true,true,true,true,true,true,true,true,true,true,false,true,true,false,false,false,true,true,false,false,false] rfl rfl (by kernel_rfl) (fun _ _ _ h=>h) (Or.inl ⟨by rfl,?_⟩) ?_ ?_
  rotate_left
  ·intro w'
   refine (exec_add w' 9 _ _ _ (by rfl) (.string S5) (.string N6) _ (by rfl) (by rfl) (a6.out w')).trans ?_;with_reducible rfl
  rotate_left
  ·simp only[Act.put,sZ0,sZ1,sZ2,i64_w,i32_w];rfl
  refine pure_ (i:=17) (N:=some 37) (v:=?_) (a':=?_) #[true,true,true,true,true,true,true,true,true,true,true,true,true,true,true,true,true,true,true,true,false,false,false,true,true,false,false,false] rfl rfl (by kernel_rfl) (fun _ _ _ h=>h) (Or.inl ⟨by rfl,?_⟩) ?_ ?_
  rotate_left
  ·intro w'
   refine (exec_add w' 9 _ _ _ (by rfl) (.string S6) (.string { data:=#[32,108,101,97,107,105,110,103,32] }) _ (by rfl) (by rfl) (a7.out w')).trans ?_;with_reducible rfl
  rotate_left
  ·simp only[Act.put,sZ0,sZ1,sZ2,i64_w,i32_w];rfl
  refine one_ (i:=20) (N:=some 40) #[true,true,true,true,true,true,true,true,true,true,true,true,true,true,true,true,true,true,true,true,true,false,false,true,true,false,false,false] rfl rfl (by kernel_rfl) (by decide) (fun K hK=>?_)
  refine goes_ Try.func30 (by kernel_rfl) rfl #[.int .i64 (f 3)] (by rfl) rfl rfl (by (try simp only[List.map_toArray,List.map_cons,List.map_nil]);first | done | rfl) ?_
  refine (c8.out _).mono ?_
  rintro e1 w4 ⟨rfl,hd⟩
  refine ⟨_,rfl,?_⟩
  refine hK.out _ _ ⟨below_step hHeld.1 hd.below,heap_below hHeld.2 hd.below⟩ (fun hHeld=>?_)
  clear hd
  clear hK K;refine norm_ (a':=?_) ?_ ?_
  rotate_left
  ·show Act.put _ (some 40) _=_
   simp only[Act.put,sZ0,sZ1,sZ2,i64_w,i32_w];rfl
  refine pure_ (i:=21) (N:=some 41) (v:=?_) (a':=?_) #[true,true,true,true,true,true,true,true,true,true,true,true,true,true,true,true,true,true,true,true,true,true,false,true,true,false,false,false] rfl rfl (by kernel_rfl) (fun _ _ _ h=>h) (Or.inl ⟨by rfl,?_⟩) ?_ ?_
  rotate_left
  ·intro w'
   refine (exec_add w' 9 _ _ _ (by rfl) (.string S7) (.string N8) _ (by rfl) (by rfl) (a8.out w')).trans ?_;with_reducible rfl
  rotate_left
  ·simp only[Act.put,sZ0,sZ1,sZ2,i64_w,i32_w];rfl
  refine pure_ (i:=22) (N:=some 42) (v:=?_) (a':=?_) #[true,true,true,true,true,true,true,true,true,true,true,true,true,true,true,true,true,true,true,true,true,true,true,true,true,false,false,false] rfl rfl (by kernel_rfl) (fun _ _ _ h=>h) (Or.inl ⟨by rfl,?_⟩) ?_ ?_
  rotate_left
  ·intro w'
   refine (exec_add w' 9 _ _ _ (by rfl) (.string S8) (.string { data:=#[32,99,108,101,97,110,32] }) _ (by rfl) (by rfl) (a9.out w')).trans ?_;with_reducible rfl
  rotate_left
  ·simp only[Act.put,sZ0,sZ1,sZ2,i64_w,i32_w];rfl
  refine one_ (i:=25) (N:=some 45) #[true,true,true,true,true,true,true,true,true,true,true,true,true,true,true,true,true,true,true,true,true,true,true,true,true,true,false,false] rfl rfl (by kernel_rfl) (by decide) (fun K hK=>?_)
  refine goes_ Try.func30 (by kernel_rfl) rfl #[.int .i64 (f 4)] (by rfl) rfl rfl (by (try simp only[List.map_toArray,List.map_cons,List.map_nil]);first | done | rfl) ?_
  refine (c10.out _).mono ?_
  rintro e1 w4 ⟨rfl,hd⟩
  refine ⟨_,rfl,?_⟩
  refine hK.out _ _ ⟨below_step hHeld.1 hd.below,heap_below hHeld.2 hd.below⟩ (fun hHeld=>?_)
  clear hd
  have bw4:=Lib.hid hHeld.1
  have gw4:=Lib.hid hHeld.2
  clear hK K;refine norm_ (a':=?_) ?_ ?_
  rotate_left
  ·show Act.put _ (some 45) _=_
   simp only[Act.put,sZ0,sZ1,sZ2,i64_w,i32_w];rfl
  refine pure_ (i:=26) (N:=some 46) (v:=?_) (a':=?_) #[true,true,true,true,true,true,true,true,true,true,true,true,true,true,true,true,true,true,true,true,true,true,true,true,true,true,true,false] rfl rfl (by kernel_rfl) (fun _ _ _ h=>h) (Or.inl ⟨by rfl,?_⟩) ?_ ?_
  rotate_left
  ·intro w'
   refine (exec_add w' 9 _ _ _ (by rfl) (.string S9) (.string N10) _ (by rfl) (by rfl) (a10.out w')).trans ?_;with_reducible rfl
  rotate_left
  ·simp only[Act.put,sZ0,sZ1,sZ2,i64_w,i32_w];rfl
  refine pure_ (i:=27) (N:=some 3) (v:=?_) (a':=?_) #[true,true,true,true,true,true,true,true,true,true,true,true,true,true,true,true,true,true,true,true,true,true,true,true,true,true,true,true] rfl rfl (by kernel_rfl) (fun _ _ _ h=>h) (Or.inl ⟨by rfl,?_⟩) ?_ ?_
  rotate_left
  ·intro w';go_simp;with_reducible rfl
  rotate_left
  ·simp only[Act.put,sZ0,sZ1,sZ2,i64_w,i32_w];rfl
  refine done_ (by kernel_rfl) ?_
  go_upto_region 5 with fail
  refine start_ (n:=23) (S:=fun w'=>Below w.heap.size w w'∧w'.heap[w.heap.size]?=some (.cells CS 51 (0,0))) (ds:=[]) #[false,false,false,false,false,false,false,false,false,false,false,false,false,false,false,false,false,false,false,false,false,false,false] (by kernel_rfl) rfl rfl (by exact ⟨below_drew bw4.out,gw4.out⟩) (fun hHeld=>?_)
  refine pure_ (i:=0) (N:=some 47) (v:=?_) (a':=?_) #[true,false,false,false,false,false,false,false,false,false,false,false,false,false,false,false,false,false,false,false,false,false,false] rfl rfl (by kernel_rfl) (fun _ _ _ h=>h) (Or.inl ⟨by rfl,?_⟩) ?_ ?_
  rotate_left
  ·intro w';go_simp;with_reducible rfl
  rotate_left
  ·simp only[Act.put,sZ0,sZ1,sZ2,i64_w,i32_w];rfl
  refine pure_ (i:=1) (N:=some 48) (v:=?_) (a':=?_) #[true,true,false,false,false,false,false,false,false,false,false,false,false,false,false,false,false,false,false,false,false,false,false] rfl rfl (by kernel_rfl) (fun _ _ _ h=>h) (Or.inl ⟨by rfl,?_⟩) ?_ ?_
  rotate_left
  ·intro w'
   refine (exec_add w' 9 _ _ _ (by rfl) (.string S10) (.string { data:=#[32,104,101,108,100,32] }) _ (by rfl) (by rfl) (a11.out w')).trans ?_;with_reducible rfl
  rotate_left
  ·simp only[Act.put,sZ0,sZ1,sZ2,i64_w,i32_w];rfl
  refine pure_ (i:=2) (N:=some 49) (v:=?_) (a':=?_) #[true,true,true,false,false,false,false,false,false,false,false,false,false,false,false,false,false,false,false,false,false,false,false] rfl rfl (by kernel_rfl) (fun _ _ _ h=>h) (Or.inl ⟨by rfl,?_⟩) ?_ ?_
  rotate_left
  ·intro w';go_simp;with_reducible rfl
  rotate_left
  ·simp only[Act.put,sZ0,sZ1,sZ2,i64_w,i32_w];rfl
  refine take_ (i:=3) (N:=some 50) (v:=?_) (a':=?_) #[true,true,true,true,false,false,false,false,false,false,false,false,false,false,false,false,false,false,false,false,false,false,false] rfl rfl (by kernel_rfl) (fun _ _ _ h=>h) (Or.inl ⟨by rfl,?_⟩) hHeld ?_ ?_
  rotate_left
  ·intro w' hS
   have hq:=(hcell.out w' _ hS.2).2.2.2.2.2.1
   go_simp;with_reducible rfl
  rotate_left
  ·simp only[Act.put,sZ0,sZ1,sZ2,i64_w,i32_w];rfl
  refine pure_ (i:=7) (N:=some 54) (v:=?_) (a':=?_) #[true,true,true,true,false,false,false,true,false,false,false,false,false,false,false,false,false,false,false,false,false,false,false] rfl rfl (by kernel_rfl) (fun _ _ _ h=>h) (Or.inl ⟨by rfl,?_⟩) ?_ ?_
  rotate_left
  ·intro w';go_simp;with_reducible rfl
  rotate_left
  ·simp only[Act.put,sZ0,sZ1,sZ2,i64_w,i32_w];rfl
  refine take_ (i:=8) (N:=some 55) (v:=?_) (a':=?_) #[true,true,true,true,false,false,false,true,true,false,false,false,false,false,false,false,false,false,false,false,false,false,false] rfl rfl (by kernel_rfl) (fun _ _ _ h=>h) (Or.inl ⟨by rfl,?_⟩) hHeld ?_ ?_
  rotate_left
  ·intro w' hS
   have hq:=(hcell.out w' _ hS.2).2.2.2.2.2.2.1
   go_simp;with_reducible rfl
  rotate_left
  ·simp only[Act.put,sZ0,sZ1,sZ2,i64_w,i32_w];rfl
  refine pure_ (i:=12) (N:=some 59) (v:=?_) (a':=?_) #[true,true,true,true,false,false,false,true,true,false,false,false,true,false,false,false,false,false,false,false,false,false,false] rfl rfl (by kernel_rfl) (fun _ _ _ h=>h) (Or.inl ⟨by rfl,?_⟩) ?_ ?_
  rotate_left
  ·intro w';go_simp;with_reducible rfl
  rotate_left
  ·simp only[Act.put,sZ0,sZ1,sZ2,i64_w,i32_w];rfl
  refine take_ (i:=13) (N:=some 60) (v:=?_) (a':=?_) #[true,true,true,true,false,false,false,true,true,false,false,false,true,true,false,false,false,false,false,false,false,false,false] rfl rfl (by kernel_rfl) (fun _ _ _ h=>h) (Or.inl ⟨by rfl,?_⟩) hHeld ?_ ?_
  rotate_left
  ·intro w' hS
   have hq:=(hcell.out w' _ hS.2).2.2.2.2.2.2.2.1
   go_simp;with_reducible rfl
  rotate_left
  ·simp only[Act.put,sZ0,sZ1,sZ2,i64_w,i32_w];rfl
  refine pure_ (i:=17) (N:=some 64) (v:=?_) (a':=?_) #[true,true,true,true,false,false,false,true,true,false,false,false,true,true,false,false,false,true,false,false,false,false,false] rfl rfl (by kernel_rfl) (fun _ _ _ h=>h) (Or.inl ⟨by rfl,?_⟩) ?_ ?_
  rotate_left
  ·intro w';go_simp;with_reducible rfl
  rotate_left
  ·simp only[Act.put,sZ0,sZ1,sZ2,i64_w,i32_w];rfl
  refine take_ (i:=18) (N:=some 65) (v:=?_) (a':=?_) #[true,true,true,true,false,false,false,true,true,false,false,false,true,true,false,false,false,true,true,false,false,false,false] rfl rfl (by kernel_rfl) (fun _ _ _ h=>h) (Or.inl ⟨by rfl,?_⟩) hHeld ?_ ?_
  rotate_left
  ·intro w' hS
   have hq:=(hcell.out w' _ hS.2).2.2.2.2.2.2.2.2.1
   go_simp;with_reducible rfl
  rotate_left
  ·simp only[Act.put,sZ0,sZ1,sZ2,i64_w,i32_w];rfl
  refine one_ (i:=4) (N:=some 51) #[true,true,true,true,true,false,false,true,true,false,false,false,true,true,false,false,false,true,true,false,false,false,false] rfl rfl (by kernel_rfl) (by decide) (fun K hK=>?_)
  refine goes_ Try.func30 (by kernel_rfl) rfl #[.int .i64 (f 5)] (by rfl) rfl rfl (by (try simp only[List.map_toArray,List.map_cons,List.map_nil]);first | done | rfl) ?_
  refine (c12.out _).mono ?_
  rintro e1 w5 ⟨rfl,hd⟩
  refine ⟨_,rfl,?_⟩
  refine hK.out _ _ ⟨below_step hHeld.1 hd.below,heap_below hHeld.2 hd.below⟩ (fun hHeld=>?_)
  clear hd
  clear hK K;refine norm_ (a':=?_) ?_ ?_
  rotate_left
  ·show Act.put _ (some 51) _=_
   simp only[Act.put,sZ0,sZ1,sZ2,i64_w,i32_w];rfl
  refine pure_ (i:=5) (N:=some 52) (v:=?_) (a':=?_) #[true,true,true,true,true,true,false,true,true,false,false,false,true,true,false,false,false,true,true,false,false,false,false] rfl rfl (by kernel_rfl) (fun _ _ _ h=>h) (Or.inl ⟨by rfl,?_⟩) ?_ ?_
  rotate_left
  ·intro w'
   refine (exec_add w' 9 _ _ _ (by rfl) (.string S11) (.string N12) _ (by rfl) (by rfl) (a12.out w')).trans ?_;with_reducible rfl
  rotate_left
  ·simp only[Act.put,sZ0,sZ1,sZ2,i64_w,i32_w];rfl
  refine pure_ (i:=6) (N:=some 53) (v:=?_) (a':=?_) #[true,true,true,true,true,true,true,true,true,false,false,false,true,true,false,false,false,true,true,false,false,false,false] rfl rfl (by kernel_rfl) (fun _ _ _ h=>h) (Or.inl ⟨by rfl,?_⟩) ?_ ?_
  rotate_left
  ·intro w'
   refine (exec_add w' 9 _ _ _ (by rfl) (.string S12) (.string { data:=#[32,100,105,114,116,121,32] }) _ (by rfl) (by rfl) (a13.out w')).trans ?_;with_reducible rfl
  rotate_left
  ·simp only[Act.put,sZ0,sZ1,sZ2,i64_w,i32_w];rfl
  refine one_ (i:=9) (N:=some 56) #[true,true,true,true,true,true,true,true,true,true,false,false,true,true,false,false,false,true,true,false,false,false,false] rfl rfl (by kernel_rfl) (by decide) (fun K hK=>?_)
  refine goes_ Try.func30 (by kernel_rfl) rfl #[.int .i64 (f 6)] (by rfl) rfl rfl (by (try simp only[List.map_toArray,List.map_cons,List.map_nil]);first | done | rfl) ?_
  refine (c14.out _).mono ?_
  rintro e1 w5 ⟨rfl,hd⟩
  refine ⟨_,rfl,?_⟩
  refine hK.out _ _ ⟨below_step hHeld.1 hd.below,heap_below hHeld.2 hd.below⟩ (fun hHeld=>?_)
  clear hd
  clear hK K;refine norm_ (a':=?_) ?_ ?_
  rotate_left
  ·show Act.put _ (some 56) _=_
   simp only[Act.put,sZ0,sZ1,sZ2,i64_w,i32_w];rfl
  refine pure_ (i:=10) (N:=some 57) (v:=?_) (a':=?_) #[true,true,true,true,true,true,true,true,true,true,true,false,true,true,false,false,false,true,true,false,false,false,false] rfl rfl (by kernel_rfl) (fun _ _ _ h=>h) (Or.inl ⟨by rfl,?_⟩) ?_ ?_
  rotate_left
  ·intro w'
   refine (exec_add w' 9 _ _ _ (by rfl) (.string S13) (.string N14) _ (by rfl) (by rfl) (a14.out w')).trans ?_;with_reducible rfl
  rotate_left
  ·simp only[Act.put,sZ0,sZ1,sZ2,i64_w,i32_w];rfl
  refine pure_ (i:=11) (N:=some 58) (v:=?_) (a':=?_) #[true,true,true,true,true,true,true,true,true,true,true,true,true,true,false,false,false,true,true,false,false,false,false] rfl rfl (by kernel_rfl) (fun _ _ _ h=>h) (Or.inl ⟨by rfl,?_⟩) ?_ ?_
  rotate_left
  ·intro w'
   refine (exec_add w' 9 _ _ _ (by rfl) (.string S14) (.string { data:=#[32,102,114,101,101,32] }) _ (by rfl) (by rfl) (a15.out w')).trans ?_;with_reducible rfl
  rotate_left
  ·simp only[Act.put,sZ0,sZ1,sZ2,i64_w,i32_w];rfl
  refine one_ (i:=14) (N:=some 61) #[true,true,true,true,true,true,true,true,true,true,true,true,true,true,true,false,false,true,true,false,false,false,false] rfl rfl (by kernel_rfl) (by decide) (fun K hK=>?_)
  refine goes_ Try.func30 (by kernel_rfl) rfl #[.int .i64 (f 7)] (by rfl) rfl rfl (by (try simp only[List.map_toArray,List.map_cons,List.map_nil]);first | done | rfl) ?_
  refine (c16.out _).mono ?_
  rintro e1 w5 ⟨rfl,hd⟩
  refine ⟨_,rfl,?_⟩
  refine hK.out _ _ ⟨below_step hHeld.1 hd.below,heap_below hHeld.2 hd.below⟩ (fun hHeld=>?_)
  clear hd
  clear hK K;refine norm_ (a':=?_) ?_ ?_
  rotate_left
  ·show Act.put _ (some 61) _=_
   simp only[Act.put,sZ0,sZ1,sZ2,i64_w,i32_w];rfl
  refine pure_ (i:=15) (N:=some 62) (v:=?_) (a':=?_) #[true,true,true,true,true,true,true,true,true,true,true,true,true,true,true,true,false,true,true,false,false,false,false] rfl rfl (by kernel_rfl) (fun _ _ _ h=>h) (Or.inl ⟨by rfl,?_⟩) ?_ ?_
  rotate_left
  ·intro w'
   refine (exec_add w' 9 _ _ _ (by rfl) (.string S15) (.string N16) _ (by rfl) (by rfl) (a16.out w')).trans ?_;with_reducible rfl
  rotate_left
  ·simp only[Act.put,sZ0,sZ1,sZ2,i64_w,i32_w];rfl
  refine pure_ (i:=16) (N:=some 63) (v:=?_) (a':=?_) #[true,true,true,true,true,true,true,true,true,true,true,true,true,true,true,true,true,true,true,false,false,false,false] rfl rfl (by kernel_rfl) (fun _ _ _ h=>h) (Or.inl ⟨by rfl,?_⟩) ?_ ?_
  rotate_left
  ·intro w'
   refine (exec_add w' 9 _ _ _ (by rfl) (.string S16) (.string { data:=#[32,115,112,97,114,101,32] }) _ (by rfl) (by rfl) (a17.out w')).trans ?_;with_reducible rfl
  rotate_left
  ·simp only[Act.put,sZ0,sZ1,sZ2,i64_w,i32_w];rfl
  refine one_ (i:=19) (N:=some 66) #[true,true,true,true,true,true,true,true,true,true,true,true,true,true,true,true,true,true,true,true,false,false,false] rfl rfl (by kernel_rfl) (by decide) (fun K hK=>?_)
  refine goes_ Try.func30 (by kernel_rfl) rfl #[.int .i64 (f 8)] (by rfl) rfl rfl (by (try simp only[List.map_toArray,List.map_cons,List.map_nil]);first | done | rfl) ?_
  refine (c18.out _).mono ?_
  rintro e1 w5 ⟨rfl,hd⟩
  refine ⟨_,rfl,?_⟩
  refine hK.out _ _ ⟨below_step hHeld.1 hd.below,heap_below hHeld.2 hd.below⟩ (fun hHeld=>?_)
  clear hd
  have bw5:=Lib.hid hHeld.1
  have gw5:=Lib.hid hHeld.2
  clear hK K;refine norm_ (a':=?_) ?_ ?_
  rotate_left
  ·show Act.put _ (some 66) _=_
   simp only[Act.put,sZ0,sZ1,sZ2,i64_w,i32_w];rfl
  refine pure_ (i:=20) (N:=some 67) (v:=?_) (a':=?_) #[true,true,true,true,true,true,true,true,true,true,true,true,true,true,true,true,true,true,true,true,true,false,false] rfl rfl (by kernel_rfl) (fun _ _ _ h=>h) (Or.inl ⟨by rfl,?_⟩) ?_ ?_
  rotate_left
  ·intro w'
   refine (exec_add w' 9 _ _ _ (by rfl) (.string S17) (.string N18) _ (by rfl) (by rfl) (a18.out w')).trans ?_;with_reducible rfl
  rotate_left
  ·simp only[Act.put,sZ0,sZ1,sZ2,i64_w,i32_w];rfl
  refine pure_ (i:=21) (N:=some 68) (v:=?_) (a':=?_) #[true,true,true,true,true,true,true,true,true,true,true,true,true,true,true,true,true,true,true,true,true,true,false] rfl rfl (by kernel_rfl) (fun _ _ _ h=>h) (Or.inl ⟨by rfl,?_⟩) ?_ ?_
  rotate_left
  ·intro w'
   refine (exec_add w' 9 _ _ _ (by rfl) (.string S18) (.string { data:=#[10,101,114,97,115,101,115] }) _ (by rfl) (by rfl) (a19.out w')).trans ?_;with_reducible rfl
  rotate_left
  ·simp only[Act.put,sZ0,sZ1,sZ2,i64_w,i32_w];rfl
  refine pure_ (i:=22) (N:=some 3) (v:=?_) (a':=?_) #[true,true,true,true,true,true,true,true,true,true,true,true,true,true,true,true,true,true,true,true,true,true,true] rfl rfl (by kernel_rfl) (fun _ _ _ h=>h) (Or.inl ⟨by rfl,?_⟩) ?_ ?_
  rotate_left
  ·intro w';go_simp;with_reducible rfl
  rotate_left
  ·simp only[Act.put,sZ0,sZ1,sZ2,i64_w,i32_w];rfl
  refine done_ (by kernel_rfl) ?_
  clear b3 g3 bw4 gw4 a1 a2 a3 a4 a5 a6 a7 a8 a9 a10 a11 a12 a13 a14 a15 a16 a17 a18 a19 c2 c4 c6 c8 c10 c12 c14 c16 c18
  go_wp2_with fail
  go_loopw [3,4] (fun s i wr=>∃ k:Nat,k≤E.length∧i=.int .i64 k∧s=.string (strOfNums (M19++eL (E.take k)))∧wr.heap[w.heap.size]?=some (.cells CS 51 (0,0))∧Below w.heap.size w wr) (fun _ i _=>E.length - (intOf i).toNat)
  case atStart=>exact ⟨0,Nat.zero_le _,rfl,by rw[List.take_zero,eL,List.flatMap_nil,List.append_nil,← hSy.out],gw5.out,bw5.out⟩
  case round=>
   obtain ⟨k,hk,rfl,rfl,hg,hb⟩:=hrel
   have hlk:=Lib.hid (eL_len (E.take k))
   obtain ⟨SK,hSK⟩:∃ S,S=strOfNums (M19++eL (E.take k)):=⟨_,rfl⟩
   have hlen:=Lib.hid (show (M19++eL (E.take k)).length≤1000000 by have h1:=hly.out;have h2:=hlk.out;have h3:=hE.out;rw[List.length_take] at h2;rw[List.length_append];omega)
   rw[← hSK]
   have hg':=Lib.hid hg
   have hb':=Lib.hid hb
   have q:=(hcell.out wr _ hg).1
   by_cases hlt:k<E.length
   ·have hes:=Lib.hid (eL_succ E k hlt)
    obtain ⟨ba,oa,rfl,hr⟩:=C_range (Kd.C_below hA.out hb) (Nat.lt_of_le_of_lt (Nat.zero_le _) hlt)
    have hcx:=C_cell hr k hlt
    obtain ⟨x,hx⟩:∃ x,x=E.getD k 0:=⟨_,rfl⟩
    rw[← hx] at hcx hes
    have hxr:=hEr.out k
    rw[← hx] at hxr
    have hn:=Lib.hid (fun W=>nepentheref32_Number.calls 30 x (numS x) W (refNumber_eq x hxr.1 hxr.2 0))
    obtain ⟨NX,hNX⟩:∃ S,S=numS x:=⟨_,rfl⟩
    rw[← hNX] at hn
    have hE':=hE.out
    have q1:(k:Int)<(E.length:Int):=by omega
    have q2:(0:Int)≤(k:Int):=by omega
    have kw:IntKind.i64.wrap ((k:Int)+1)=(k:Int)+1:=by rw[IntKind.wrap_i64];omega
    have hk1:=Lib.hid (show k+1≤E.length from hlt)
    have z1:SK.size+1≤9223372036854775807:=by rw[hSK,strOfNums_size];have:=hlen.out;omega
    have hnx:=numLs_len x
    have z2:SK.size+1+NX.size≤9223372036854775807:=by rw[hSK,hNX,strOfNums_size,numS,strOfNums_size];have:=hlen.out;omega
    have hfin:=Lib.hid (show SK ++ { data:=#[32] }++NX=strOfNums (M19++eL (E.take (k+1))) by
     rw[hes.out,← List.append_assoc,str_app,hSK,hNX,str_app,List.nil_append]
     rw[show ([32]:List Int)++numLs x=[32]++numLs x from rfl,str_app [32] (numLs x),← ByteArray.append_assoc]
     rfl)
    clear hlt hk hr hx hE' hg hb hSK hNX hxr hnx bw5 gw5
    go_wp2_with ((with_reducible go_at_call 30);refine (hn.out _).mono ?_;rintro e1 wn ⟨rfl,hd⟩;have gn:=Lib.hid (heap_below hg'.out hd.below);have bn:=Lib.hid (below_step hb'.out hd.below);clear hd)
    exact ⟨⟨k+1,hk1.out,by push_cast;rfl,by rw[← hfin.out],gn.out,bn.out⟩,by have:=hk1.out;simp only[intOf];omega⟩
   obtain rfl:k=E.length:=by omega
   have z1:SK.size+1≤9223372036854775807:=by rw[hSK,strOfNums_size];have:=hlen.out;omega
   obtain ⟨MZ,hMZ⟩:∃ M,M=M19++eL E ++ [10]:=⟨_,rfl⟩
   have hfin:=Lib.hid (show SK ++ { data:=#[10] }=strOfNums MZ by
    rw[hMZ,hSK,List.take_length];exact (str_app _ [10]).symm)
   have hlz:=Lib.hid (show MZ.length≤1000100 by rw[hMZ];have h1:=hlen.out;rw[List.take_length] at h1;rw[List.length_append (bs:=[10])];simp only[List.length_cons,List.length_nil];omega)
   have hMZ':=Lib.hid hMZ
   clear hlt hk hg hb hSK hMZ bw5 gw5 hly hSy hlk hlen
   go_wp2_with fail
   clear z1 q
   go_loopw [3,5,6] (fun s i _ wr=>∃ j:Nat,j≤4∧i=.int .i64 j∧s=.string (strOfNums (rSp b p j MZ))∧wr.heap[w.heap.size]?=some (.cells CS 51 (0,0))∧Below w.heap.size w wr) (fun _ i _ _=>4 - (intOf i).toNat)
   case atStart=>exact ⟨0,by omega,rfl,by rw[hfin.out];rfl,hg'.out,hb'.out⟩
   case round=>
    obtain ⟨j,hj,rfl,rfl,hg,hb⟩:=hrel
    have hlj:=rSp_len b p j MZ
    obtain ⟨M0,hM0⟩:∃ M,M=rSp b p j MZ:=⟨_,rfl⟩
    obtain ⟨S0,hS0⟩:∃ S,S=strOfNums M0:=⟨_,rfl⟩
    rw[← hM0] at hlj ⊢
    rw[← hS0]
    have hg2:=Lib.hid hg
    have hb2:=Lib.hid hb
    by_cases hlt:j<4
    ·have q1:(j:Int)<4:=by omega
     have q2:(0:Int)≤(j:Int):=by omega
     have kw:IntKind.i64.wrap ((j:Int)+1)=(j:Int)+1:=by rw[IntKind.wrap_i64];omega
     have hj1:=Lib.hid hlt
     have l0:M0.length≤1002000:=by have:=hlz.out;omega
     obtain ⟨M20,hM20⟩:∃ M,M=M0++([110,115,32]:List Int):=⟨_,rfl⟩
     obtain ⟨S20,hS20⟩:∃ S,S=strOfNums M20:=⟨_,rfl⟩
     have a20:=Lib.hid (show ∀ W:World,(binOp .add 9 (.string S0) (.string { data:=#[110,115,32] })).run Try.prog W=.ok (.string S20) W by rw[hS0,hS20,hM20];exact fun W=>str_add W M0 ([110,115,32]:List Int) (by simp only[List.length_cons,List.length_nil];omega))
     have l20:M20.length≤1002003:=by rw[hM20,List.length_append];simp only[List.length_cons,List.length_nil];omega
     obtain ⟨N21,hN21⟩:∃ S,S=strOfNums (numLs (j:Int)):=⟨_,rfl⟩
     have c21:=Lib.hid (fun W=>nepentheref32_Number.calls 30 (j:Int) (numS (j:Int)) W (refNumber_eq (j:Int) (by omega) (by omega) 0))
     rw[show numS (j:Int)=N21 from hN21.symm] at c21
     have v21:=numLs_len (j:Int)
     obtain ⟨M21,hM21⟩:∃ M,M=M20++(numLs (j:Int)):=⟨_,rfl⟩
     obtain ⟨S21,hS21⟩:∃ S,S=strOfNums M21:=⟨_,rfl⟩
     have a21:=Lib.hid (show ∀ W:World,(binOp .add 9 (.string S20) (.string N21)).run Try.prog W=.ok (.string S21) W by rw[hS20,hS21,hM21];rw[hN21];exact fun W=>str_add W M20 (numLs (j:Int)) (by omega))
     have l21:M21.length≤1002024:=by rw[hM21,List.length_append];omega
     obtain ⟨M22,hM22⟩:∃ M,M=M21++([32,115,105,122,101,32]:List Int):=⟨_,rfl⟩
     obtain ⟨S22,hS22⟩:∃ S,S=strOfNums M22:=⟨_,rfl⟩
     have a22:=Lib.hid (show ∀ W:World,(binOp .add 9 (.string S21) (.string { data:=#[32,115,105,122,101,32] })).run Try.prog W=.ok (.string S22) W by rw[hS21,hS22,hM22];exact fun W=>str_add W M21 ([32,115,105,122,101,32]:List Int) (by simp only[List.length_cons,List.length_nil];omega))
     have l22:M22.length≤1002030:=by rw[hM22,List.length_append];simp only[List.length_cons,List.length_nil];omega
     obtain ⟨N23,hN23⟩:∃ S,S=strOfNums (numLs (p j 1)):=⟨_,rfl⟩
     have c23:=Lib.hid (fun W=>nepentheref32_Number.calls 30 (p j 1) (numS (p j 1)) W (refNumber_eq (p j 1) (hp'.out j 1).1 (hp'.out j 1).2 0))
     rw[show numS (p j 1)=N23 from hN23.symm] at c23
     have v23:=numLs_len (p j 1)
     obtain ⟨M23,hM23⟩:∃ M,M=M22++(numLs (p j 1)):=⟨_,rfl⟩
     obtain ⟨S23,hS23⟩:∃ S,S=strOfNums M23:=⟨_,rfl⟩
     have a23:=Lib.hid (show ∀ W:World,(binOp .add 9 (.string S22) (.string N23)).run Try.prog W=.ok (.string S23) W by rw[hS22,hS23,hM23];rw[hN23];exact fun W=>str_add W M22 (numLs (p j 1)) (by omega))
     have l23:M23.length≤1002051:=by rw[hM23,List.length_append];omega
     obtain ⟨M24,hM24⟩:∃ M,M=M23++([32,100,97,116,97,32]:List Int):=⟨_,rfl⟩
     obtain ⟨S24,hS24⟩:∃ S,S=strOfNums M24:=⟨_,rfl⟩
     have a24:=Lib.hid (show ∀ W:World,(binOp .add 9 (.string S23) (.string { data:=#[32,100,97,116,97,32] })).run Try.prog W=.ok (.string S24) W by rw[hS23,hS24,hM24];exact fun W=>str_add W M23 ([32,100,97,116,97,32]:List Int) (by simp only[List.length_cons,List.length_nil];omega))
     have l24:M24.length≤1002057:=by rw[hM24,List.length_append];simp only[List.length_cons,List.length_nil];omega
     obtain ⟨N25,hN25⟩:∃ S,S=strOfNums (numLs (p j 2)):=⟨_,rfl⟩
     have c25:=Lib.hid (fun W=>nepentheref32_Number.calls 30 (p j 2) (numS (p j 2)) W (refNumber_eq (p j 2) (hp'.out j 2).1 (hp'.out j 2).2 0))
     rw[show numS (p j 2)=N25 from hN25.symm] at c25
     have v25:=numLs_len (p j 2)
     obtain ⟨M25,hM25⟩:∃ M,M=M24++(numLs (p j 2)):=⟨_,rfl⟩
     obtain ⟨S25,hS25⟩:∃ S,S=strOfNums M25:=⟨_,rfl⟩
     have a25:=Lib.hid (show ∀ W:World,(binOp .add 9 (.string S24) (.string N25)).run Try.prog W=.ok (.string S25) W by rw[hS24,hS25,hM25];rw[hN25];exact fun W=>str_add W M24 (numLs (p j 2)) (by omega))
     have l25:M25.length≤1002078:=by rw[hM25,List.length_append];omega
     obtain ⟨M26,hM26⟩:∃ M,M=M25++([32,116,114,105,109,109,101,100,32]:List Int):=⟨_,rfl⟩
     obtain ⟨S26,hS26⟩:∃ S,S=strOfNums M26:=⟨_,rfl⟩
     have a26:=Lib.hid (show ∀ W:World,(binOp .add 9 (.string S25) (.string { data:=#[32,116,114,105,109,109,101,100,32] })).run Try.prog W=.ok (.string S26) W by rw[hS25,hS26,hM26];exact fun W=>str_add W M25 ([32,116,114,105,109,109,101,100,32]:List Int) (by simp only[List.length_cons,List.length_nil];omega))
     have l26:M26.length≤1002087:=by rw[hM26,List.length_append];simp only[List.length_cons,List.length_nil];omega
     obtain ⟨N27,hN27⟩:∃ S,S=strOfNums (numLs (p j 3)):=⟨_,rfl⟩
     have c27:=Lib.hid (fun W=>nepentheref32_Number.calls 30 (p j 3) (numS (p j 3)) W (refNumber_eq (p j 3) (hp'.out j 3).1 (hp'.out j 3).2 0))
     rw[show numS (p j 3)=N27 from hN27.symm] at c27
     have v27:=numLs_len (p j 3)
     obtain ⟨M27,hM27⟩:∃ M,M=M26++(numLs (p j 3)):=⟨_,rfl⟩
     obtain ⟨S27,hS27⟩:∃ S,S=strOfNums M27:=⟨_,rfl⟩
     have a27:=Lib.hid (show ∀ W:World,(binOp .add 9 (.string S26) (.string N27)).run Try.prog W=.ok (.string S27) W by rw[hS26,hS27,hM27];rw[hN27];exact fun W=>str_add W M26 (numLs (p j 3)) (by omega))
     have l27:M27.length≤1002108:=by rw[hM27,List.length_append];omega
     obtain ⟨M28,hM28⟩:∃ M,M=M27++([32,98,108,111,99,107,115,32]:List Int):=⟨_,rfl⟩
     obtain ⟨S28,hS28⟩:∃ S,S=strOfNums M28:=⟨_,rfl⟩
     have a28:=Lib.hid (show ∀ W:World,(binOp .add 9 (.string S27) (.string { data:=#[32,98,108,111,99,107,115,32] })).run Try.prog W=.ok (.string S28) W by rw[hS27,hS28,hM28];exact fun W=>str_add W M27 ([32,98,108,111,99,107,115,32]:List Int) (by simp only[List.length_cons,List.length_nil];omega))
     have l28:M28.length≤1002116:=by rw[hM28,List.length_append];simp only[List.length_cons,List.length_nil];omega
     obtain ⟨N29,hN29⟩:∃ S,S=strOfNums (numLs (p j 4)):=⟨_,rfl⟩
     have c29:=Lib.hid (fun W=>nepentheref32_Number.calls 30 (p j 4) (numS (p j 4)) W (refNumber_eq (p j 4) (hp'.out j 4).1 (hp'.out j 4).2 0))
     rw[show numS (p j 4)=N29 from hN29.symm] at c29
     have v29:=numLs_len (p j 4)
     obtain ⟨M29,hM29⟩:∃ M,M=M28++(numLs (p j 4)):=⟨_,rfl⟩
     obtain ⟨S29,hS29⟩:∃ S,S=strOfNums M29:=⟨_,rfl⟩
     have a29:=Lib.hid (show ∀ W:World,(binOp .add 9 (.string S28) (.string N29)).run Try.prog W=.ok (.string S29) W by rw[hS28,hS29,hM29];rw[hN29];exact fun W=>str_add W M28 (numLs (p j 4)) (by omega))
     have l29:M29.length≤1002137:=by rw[hM29,List.length_append];omega
     obtain ⟨M30,hM30⟩:∃ M,M=M29++([32,115,116,97,108,101,32]:List Int):=⟨_,rfl⟩
     obtain ⟨S30,hS30⟩:∃ S,S=strOfNums M30:=⟨_,rfl⟩
     have a30:=Lib.hid (show ∀ W:World,(binOp .add 9 (.string S29) (.string { data:=#[32,115,116,97,108,101,32] })).run Try.prog W=.ok (.string S30) W by rw[hS29,hS30,hM30];exact fun W=>str_add W M29 ([32,115,116,97,108,101,32]:List Int) (by simp only[List.length_cons,List.length_nil];omega))
     have l30:M30.length≤1002144:=by rw[hM30,List.length_append];simp only[List.length_cons,List.length_nil];omega
     obtain ⟨N31,hN31⟩:∃ S,S=strOfNums (numLs (p j 5)):=⟨_,rfl⟩
     have c31:=Lib.hid (fun W=>nepentheref32_Number.calls 30 (p j 5) (numS (p j 5)) W (refNumber_eq (p j 5) (hp'.out j 5).1 (hp'.out j 5).2 0))
     rw[show numS (p j 5)=N31 from hN31.symm] at c31
     have v31:=numLs_len (p j 5)
     obtain ⟨M31,hM31⟩:∃ M,M=M30++(numLs (p j 5)):=⟨_,rfl⟩
     obtain ⟨S31,hS31⟩:∃ S,S=strOfNums M31:=⟨_,rfl⟩
     have a31:=Lib.hid (show ∀ W:World,(binOp .add 9 (.string S30) (.string N31)).run Try.prog W=.ok (.string S31) W by rw[hS30,hS31,hM31];rw[hN31];exact fun W=>str_add W M30 (numLs (p j 5)) (by omega))
     have l31:M31.length≤1002165:=by rw[hM31,List.length_append];omega
     obtain ⟨M32,hM32⟩:∃ M,M=M31++([10]:List Int):=⟨_,rfl⟩
     obtain ⟨S32,hS32⟩:∃ S,S=strOfNums M32:=⟨_,rfl⟩
     have a32:=Lib.hid (show ∀ W:World,(binOp .add 9 (.string S31) (.string { data:=#[10] })).run Try.prog W=.ok (.string S32) W by rw[hS31,hS32,hM32];exact fun W=>str_add W M31 ([10]:List Int) (by simp only[List.length_cons,List.length_nil];omega))
     have l32:M32.length≤1002166:=by rw[hM32,List.length_append];simp only[List.length_cons,List.length_nil];omega
     have hfs:=Lib.hid (show S32=strOfNums (rTs p j M0) by rw[hS32,hM32,hM31,hM30,hM29,hM28,hM27,hM26,hM25,hM24,hM23,hM22,hM21,hM20];rfl)
     have hsuc:=Lib.hid (show rSp b p (j+1) MZ=if b j=true then rTs p j M0 else M0 by rw[hM0];rfl)
     have hS0':=Lib.hid hS0
     have hrg:=Lib.hid (show wr.rangeAt w.heap.size (9+j*6) (spacl b p j) from space_range (hsp.out wr _ hg) j hlt)
     obtain ⟨X,hX⟩:∃ X,X=spacl b p j:=⟨_,rfl⟩
     rw[← hX] at hrg
     have hszX:=Lib.hid (show (Try.prog.info? 48).map (·.size)=some X.length by rw[hX];exact szSq)
     have hs1:=Lib.hid (show (Try.prog.info? 48).map (·.size)=some X.toArray.size by rw[hX];exact szSq)
     have ho1:=Lib.hid (show X.toArray.all (·.oneCell')=true by rw[hX];exact spacl_one _ _ _)
     obtain ⟨hzS,-⟩:=zero_of_info (P:=Try.prog) infoSq
     obtain ⟨ZS,hZS⟩:∃ Z:Array Value,Z=zSp:=⟨_,rfl⟩
     rw[← hZS] at hzS
     have hz1:=Lib.hid (show ZS.size=X.toArray.size by rw[hX,hZS];rfl)
     have hcq:=Lib.hid (fun (W:World) (g:Nat) (h:W.heap[g]?=some (.cells X.toArray 48 (0,0)))=>spacl_cells (b:=b) (p:=p) (j:=j) (by rw[hX] at h;exact h))
     clear hlt hj hg hb hM0 hS0 hlj l0 hX hZS hfin hM20 hS20 l20 hM21 hS21 l21 hM22 hS22 l22 hM23 hS23 l23 hM24 hS24 l24 hM25 hS25 l25 hM26 hS26 l26 hM27 hS27 l27 hM28 hS28 l28 hM29 hS29 l29 hM30 hS30 l30 hM31 hS31 l31 hM32 hS32 l32 hN21 v21 hN23 v23 hN25 v25 hN27 v27 hN29 v29 hN31 v31
     obtain ⟨bj,hbj⟩:∃ x,x=b j:=⟨_,rfl⟩
     rw[← hbj] at hcq hsuc
     clear hbj
     cases bj with
     |false=>
      go_wp2_with (first
       |(with_reducible refine wpList_load_mid rfl 48 _ rfl w.heap.size (9+j*6) rfl X _ hrg.out Try.underlying48 rfl hszX.out ?_)
       |(with_reducible refine wpList_store_row rfl 48 _ _ rfl wr.heap.size X.toArray rfl rfl 48 ZS (heap_alloc_last _ _) hs1.out hz1.out ho1.out ?_;have b12:=Lib.hid (below_setRow ((Below.refl wr.heap.size wr).alloc (Nat.le_refl _) (.cells ZS 48 (0,0))) (Nat.le_refl _) X.toArray);have k20:=Lib.hid (setRow_heap (wr.alloc (.cells ZS 48 (0,0))) wr.heap.size ZS X.toArray 48 (0,0) (heap_alloc_last _ _));generalize (wr.alloc (.cells ZS 48 (0,0))).setRow wr.heap.size X.toArray=w20 at *;have q20:=(hcq.out w20 _ k20.out).1))
      exact ⟨⟨j+1,hj1.out,by push_cast;rfl,by rw[hsuc.out,if_neg (by decide),← hS0'.out],heap_below hg2.out b12.out,below_step hb2.out b12.out⟩,by have:=hj1.out;simp only[intOf];omega⟩
     |true=>
      go_wp2_with (first
       |(with_reducible refine wpList_load_mid rfl 48 _ rfl w.heap.size (9+j*6) rfl X _ hrg.out Try.underlying48 rfl hszX.out ?_)
       |(with_reducible refine wpList_store_row rfl 48 _ _ rfl wr.heap.size X.toArray rfl rfl 48 ZS (heap_alloc_last _ _) hs1.out hz1.out ho1.out ?_;have b12:=Lib.hid (below_setRow ((Below.refl wr.heap.size wr).alloc (Nat.le_refl _) (.cells ZS 48 (0,0))) (Nat.le_refl _) X.toArray);have k20:=Lib.hid (setRow_heap (wr.alloc (.cells ZS 48 (0,0))) wr.heap.size ZS X.toArray 48 (0,0) (heap_alloc_last _ _));generalize (wr.alloc (.cells ZS 48 (0,0))).setRow wr.heap.size X.toArray=w20 at *;have q20:=(hcq.out w20 _ k20.out).1))
      have g20:=Lib.hid (heap_below hg2.out b12.out)
      have b20:=Lib.hid (below_step hb2.out b12.out)
      refine start_ (n:=32) (S:=fun w'=>Below w.heap.size w w'∧w'.heap[w.heap.size]?=some (.cells CS 51 (0,0))∧w'.heap[wr.heap.size]?=some (.cells X.toArray 48 (0,0))) (ds:=[]) #[false,false,false,false,false,false,false,false,false,false,false,false,false,false,false,false,false,false,false,false,false,false,false,false,false,false,false,false,false,false,false,false] (by kernel_rfl) rfl rfl (by exact ⟨below_drew b20.out,g20.out,k20.out⟩) (fun hHeld=>?_)
      refine pure_ (i:=0) (N:=some 97) (v:=?_) (a':=?_) #[true,false,false,false,false,false,false,false,false,false,false,false,false,false,false,false,false,false,false,false,false,false,false,false,false,false,false,false,false,false,false,false] rfl rfl (by kernel_rfl) (fun _ _ _ h=>h) (Or.inl ⟨by rfl,?_⟩) ?_ ?_
      rotate_left
      ·intro w';go_simp;with_reducible rfl
      rotate_left
      ·simp only[Act.put,sZ0,sZ1,sZ2,i64_w,i32_w];rfl
      refine pure_ (i:=1) (N:=some 98) (v:=?_) (a':=?_) #[true,true,false,false,false,false,false,false,false,false,false,false,false,false,false,false,false,false,false,false,false,false,false,false,false,false,false,false,false,false,false,false] rfl rfl (by kernel_rfl) (fun _ _ _ h=>h) (Or.inl ⟨by rfl,?_⟩) ?_ ?_
      rotate_left
      ·intro w'
       refine (exec_add w' 9 _ _ _ (by rfl) (.string S0) (.string { data:=#[110,115,32] }) _ (by rfl) (by rfl) (a20.out w')).trans ?_;with_reducible rfl
      rotate_left
      ·simp only[Act.put,sZ0,sZ1,sZ2,i64_w,i32_w];rfl
      refine pure_ (i:=2) (N:=some 99) (v:=?_) (a':=?_) #[true,true,true,false,false,false,false,false,false,false,false,false,false,false,false,false,false,false,false,false,false,false,false,false,false,false,false,false,false,false,false,false] rfl rfl (by kernel_rfl) (fun _ _ _ h=>h) (Or.inl ⟨by rfl,?_⟩) ?_ ?_
      rotate_left
      ·intro w';go_simp;with_reducible rfl
      rotate_left
      ·simp only[Act.put,sZ0,sZ1,sZ2,i64_w,i32_w];rfl
      refine pure_ (i:=6) (N:=some 103) (v:=?_) (a':=?_) #[true,true,true,false,false,false,true,false,false,false,false,false,false,false,false,false,false,false,false,false,false,false,false,false,false,false,false,false,false,false,false,false] rfl rfl (by kernel_rfl) (fun _ _ _ h=>h) (Or.inl ⟨by rfl,?_⟩) ?_ ?_
      rotate_left
      ·intro w';go_simp;with_reducible rfl
      rotate_left
      ·simp only[Act.put,sZ0,sZ1,sZ2,i64_w,i32_w];rfl
      refine take_ (i:=7) (N:=some 104) (v:=?_) (a':=?_) #[true,true,true,false,false,false,true,true,false,false,false,false,false,false,false,false,false,false,false,false,false,false,false,false,false,false,false,false,false,false,false,false] rfl rfl (by kernel_rfl) (fun _ _ _ h=>h) (Or.inl ⟨by rfl,?_⟩) hHeld ?_ ?_
      rotate_left
      ·intro w' hS
       have hq:=(hcq.out w' _ hS.2.2).2.1
       go_simp;with_reducible rfl
      rotate_left
      ·simp only[Act.put,sZ0,sZ1,sZ2,i64_w,i32_w];rfl
      refine pure_ (i:=11) (N:=some 108) (v:=?_) (a':=?_) #[true,true,true,false,false,false,true,true,false,false,false,true,false,false,false,false,false,false,false,false,false,false,false,false,false,false,false,false,false,false,false,false] rfl rfl (by kernel_rfl) (fun _ _ _ h=>h) (Or.inl ⟨by rfl,?_⟩) ?_ ?_
      rotate_left
      ·intro w';go_simp;with_reducible rfl
      rotate_left
      ·simp only[Act.put,sZ0,sZ1,sZ2,i64_w,i32_w];rfl
      refine take_ (i:=12) (N:=some 109) (v:=?_) (a':=?_) #[true,true,true,false,false,false,true,true,false,false,false,true,true,false,false,false,false,false,false,false,false,false,false,false,false,false,false,false,false,false,false,false] rfl rfl (by kernel_rfl) (fun _ _ _ h=>h) (Or.inl ⟨by rfl,?_⟩) hHeld ?_ ?_
      rotate_left
      ·intro w' hS
       have hq:=(hcq.out w' _ hS.2.2).2.2.1
       go_simp;with_reducible rfl
      rotate_left
      ·simp only[Act.put,sZ0,sZ1,sZ2,i64_w,i32_w];rfl
      refine pure_ (i:=16) (N:=some 113) (v:=?_) (a':=?_) #[true,true,true,false,false,false,true,true,false,false,false,true,true,false,false,false,true,false,false,false,false,false,false,false,false,false,false,false,false,false,false,false] rfl rfl (by kernel_rfl) (fun _ _ _ h=>h) (Or.inl ⟨by rfl,?_⟩) ?_ ?_
      rotate_left
      ·intro w';go_simp;with_reducible rfl
      rotate_left
      ·simp only[Act.put,sZ0,sZ1,sZ2,i64_w,i32_w];rfl
      refine take_ (i:=17) (N:=some 114) (v:=?_) (a':=?_) #[true,true,true,false,false,false,true,true,false,false,false,true,true,false,false,false,true,true,false,false,false,false,false,false,false,false,false,false,false,false,false,false] rfl rfl (by kernel_rfl) (fun _ _ _ h=>h) (Or.inl ⟨by rfl,?_⟩) hHeld ?_ ?_
      rotate_left
      ·intro w' hS
       have hq:=(hcq.out w' _ hS.2.2).2.2.2.1
       go_simp;with_reducible rfl
      rotate_left
      ·simp only[Act.put,sZ0,sZ1,sZ2,i64_w,i32_w];rfl
      refine pure_ (i:=21) (N:=some 118) (v:=?_) (a':=?_) #[true,true,true,false,false,false,true,true,false,false,false,true,true,false,false,false,true,true,false,false,false,true,false,false,false,false,false,false,false,false,false,false] rfl rfl (by kernel_rfl) (fun _ _ _ h=>h) (Or.inl ⟨by rfl,?_⟩) ?_ ?_
      rotate_left
      ·intro w';go_simp;with_reducible rfl
      rotate_left
      ·simp only[Act.put,sZ0,sZ1,sZ2,i64_w,i32_w];rfl
      refine take_ (i:=22) (N:=some 119) (v:=?_) (a':=?_) #[true,true,true,false,false,false,true,true,false,false,false,true,true,false,false,false,true,true,false,false,false,true,true,false,false,false,false,false,false,false,false,false] rfl rfl (by kernel_rfl) (fun _ _ _ h=>h) (Or.inl ⟨by rfl,?_⟩) hHeld ?_ ?_
      rotate_left
      ·intro w' hS
       have hq:=(hcq.out w' _ hS.2.2).2.2.2.2.1
       go_simp;with_reducible rfl
      rotate_left
      ·simp only[Act.put,sZ0,sZ1,sZ2,i64_w,i32_w];rfl
      refine pure_ (i:=26) (N:=some 123) (v:=?_) (a':=?_) #[true,true,true,false,false,false,true,true,false,false,false,true,true,false,false,false,true,true,false,false,false,true,true,false,false,false,true,false,false,false,false,false] rfl rfl (by kernel_rfl) (fun _ _ _ h=>h) (Or.inl ⟨by rfl,?_⟩) ?_ ?_
      rotate_left
      ·intro w';go_simp;with_reducible rfl
      rotate_left
      ·simp only[Act.put,sZ0,sZ1,sZ2,i64_w,i32_w];rfl
      refine take_ (i:=27) (N:=some 124) (v:=?_) (a':=?_) #[true,true,true,false,false,false,true,true,false,false,false,true,true,false,false,false,true,true,false,false,false,true,true,false,false,false,true,true,false,false,false,false] rfl rfl (by kernel_rfl) (fun _ _ _ h=>h) (Or.inl ⟨by rfl,?_⟩) hHeld ?_ ?_
      rotate_left
      ·intro w' hS
       have hq:=(hcq.out w' _ hS.2.2).2.2.2.2.2
       go_simp;with_reducible rfl
      rotate_left
      ·simp only[Act.put,sZ0,sZ1,sZ2,i64_w,i32_w];rfl
      refine one_ (i:=3) (N:=some 100) #[true,true,true,true,false,false,true,true,false,false,false,true,true,false,false,false,true,true,false,false,false,true,true,false,false,false,true,true,false,false,false,false] rfl rfl (by kernel_rfl) (by decide) (fun K hK=>?_)
      refine goes_ Try.func30 (by kernel_rfl) rfl #[.int .i64 (j:Int)] (by rfl) rfl rfl (by (try simp only[List.map_toArray,List.map_cons,List.map_nil]);first | done | rfl) ?_
      refine (c21.out _).mono ?_
      rintro e1 w21 ⟨rfl,hd⟩
      refine ⟨_,rfl,?_⟩
      refine hK.out _ _ ⟨below_step hHeld.1 hd.below,heap_below hHeld.2.1 hd.below,heap_below hHeld.2.2 hd.below⟩ (fun hHeld=>?_)
      clear hd
      clear hK K;refine norm_ (a':=?_) ?_ ?_
      rotate_left
      ·show Act.put _ (some 100) _=_
       simp only[Act.put,sZ0,sZ1,sZ2,i64_w,i32_w];rfl
      refine pure_ (i:=4) (N:=some 101) (v:=?_) (a':=?_) #[true,true,true,true,true,false,true,true,false,false,false,true,true,false,false,false,true,true,false,false,false,true,true,false,false,false,true,true,false,false,false,false] rfl rfl (by kernel_rfl) (fun _ _ _ h=>h) (Or.inl ⟨by rfl,?_⟩) ?_ ?_
      rotate_left
      ·intro w'
       refine (exec_add w' 9 _ _ _ (by rfl) (.string S20) (.string N21) _ (by rfl) (by rfl) (a21.out w')).trans ?_;with_reducible rfl
      rotate_left
      ·simp only[Act.put,sZ0,sZ1,sZ2,i64_w,i32_w];rfl
      refine pure_ (i:=5) (N:=some 102) (v:=?_) (a':=?_) #[true,true,true,true,true,true,true,true,false,false,false,true,true,false,false,false,true,true,false,false,false,true,true,false,false,false,true,true,false,false,false,false] rfl rfl (by kernel_rfl) (fun _ _ _ h=>h) (Or.inl ⟨by rfl,?_⟩) ?_ ?_
      rotate_left
      ·intro w'
       refine (exec_add w' 9 _ _ _ (by rfl) (.string S21) (.string { data:=#[32,115,105,122,101,32] }) _ (by rfl) (by rfl) (a22.out w')).trans ?_;with_reducible rfl
      rotate_left
      ·simp only[Act.put,sZ0,sZ1,sZ2,i64_w,i32_w];rfl
      refine one_ (i:=8) (N:=some 105) #[true,true,true,true,true,true,true,true,true,false,false,true,true,false,false,false,true,true,false,false,false,true,true,false,false,false,true,true,false,false,false,false] rfl rfl (by kernel_rfl) (by decide) (fun K hK=>?_)
      refine goes_ Try.func30 (by kernel_rfl) rfl #[.int .i64 (p j 1)] (by rfl) rfl rfl (by (try simp only[List.map_toArray,List.map_cons,List.map_nil]);first | done | rfl) ?_
      refine (c23.out _).mono ?_
      rintro e1 w21 ⟨rfl,hd⟩
      refine ⟨_,rfl,?_⟩
      refine hK.out _ _ ⟨below_step hHeld.1 hd.below,heap_below hHeld.2.1 hd.below,heap_below hHeld.2.2 hd.below⟩ (fun hHeld=>?_)
      clear hd
      clear hK K;refine norm_ (a':=?_) ?_ ?_
      rotate_left
      ·show Act.put _ (some 105) _=_
       simp only[Act.put,sZ0,sZ1,sZ2,i64_w,i32_w];rfl
      refine pure_ (i:=9) (N:=some 106) (v:=?_) (a':=?_) #[true,true,true,true,true,true,true,true,true,true,false,true,true,false,false,false,true,true,false,false,false,true,true,false,false,false,true,true,false,false,false,false] rfl rfl (by kernel_rfl) (fun _ _ _ h=>h) (Or.inl ⟨by rfl,?_⟩) ?_ ?_
      rotate_left
      ·intro w'
       refine (exec_add w' 9 _ _ _ (by rfl) (.string S22) (.string N23) _ (by rfl) (by rfl) (a23.out w')).trans ?_;with_reducible rfl
      rotate_left
      ·simp only[Act.put,sZ0,sZ1,sZ2,i64_w,i32_w];rfl
      refine pure_ (i:=10) (N:=some 107) (v:=?_) (a':=?_) #[true,true,true,true,true,true,true,true,true,true,true,true,true,false,false,false,true,true,false,false,false,true,true,false,false,false,true,true,false,false,false,false] rfl rfl (by kernel_rfl) (fun _ _ _ h=>h) (Or.inl ⟨by rfl,?_⟩) ?_ ?_
      rotate_left
      ·intro w'
       refine (exec_add w' 9 _ _ _ (by rfl) (.string S23) (.string { data:=#[32,100,97,116,97,32] }) _ (by rfl) (by rfl) (a24.out w')).trans ?_;with_reducible rfl
      rotate_left
      ·simp only[Act.put,sZ0,sZ1,sZ2,i64_w,i32_w];rfl
      refine one_ (i:=13) (N:=some 110) #[true,true,true,true,true,true,true,true,true,true,true,true,true,true,false,false,true,true,false,false,false,true,true,false,false,false,true,true,false,false,false,false] rfl rfl (by kernel_rfl) (by decide) (fun K hK=>?_)
      refine goes_ Try.func30 (by kernel_rfl) rfl #[.int .i64 (p j 2)] (by rfl) rfl rfl (by (try simp only[List.map_toArray,List.map_cons,List.map_nil]);first | done | rfl) ?_
      refine (c25.out _).mono ?_
      rintro e1 w21 ⟨rfl,hd⟩
      refine ⟨_,rfl,?_⟩
      refine hK.out _ _ ⟨below_step hHeld.1 hd.below,heap_below hHeld.2.1 hd.below,heap_below hHeld.2.2 hd.below⟩ (fun hHeld=>?_)
      clear hd
      clear hK K;refine norm_ (a':=?_) ?_ ?_
      rotate_left
      ·show Act.put _ (some 110) _=_
       simp only[Act.put,sZ0,sZ1,sZ2,i64_w,i32_w];rfl
      refine pure_ (i:=14) (N:=some 111) (v:=?_) (a':=?_) #[true,true,true,true,true,true,true,true,true,true,true,true,true,true,true,false,true,true,false,false,false,true,true,false,false,false,true,true,false,false,false,false] rfl rfl (by kernel_rfl) (fun _ _ _ h=>h) (Or.inl ⟨by rfl,?_⟩) ?_ ?_
      rotate_left
      ·intro w'
       refine (exec_add w' 9 _ _ _ (by rfl) (.string S24) (.string N25) _ (by rfl) (by rfl) (a25.out w')).trans ?_;with_reducible rfl
      rotate_left
      ·simp only[Act.put,sZ0,sZ1,sZ2,i64_w,i32_w];rfl
      refine pure_ (i:=15) (N:=some 112) (v:=?_) (a':=?_) #[true,true,true,true,true,true,true,true,true,true,true,true,true,true,true,true,true,true,false,false,false,true,true,false,false,false,true,true,false,false,false,false] rfl rfl (by kernel_rfl) (fun _ _ _ h=>h) (Or.inl ⟨by rfl,?_⟩) ?_ ?_
      rotate_left
      ·intro w'
       refine (exec_add w' 9 _ _ _ (by rfl) (.string S25) (.string { data:=#[32,116,114,105,109,109,101,100,32] }) _ (by rfl) (by rfl) (a26.out w')).trans ?_;with_reducible rfl
      rotate_left
      ·simp only[Act.put,sZ0,sZ1,sZ2,i64_w,i32_w];rfl
      refine one_ (i:=18) (N:=some 115) #[true,true,true,true,true,true,true,true,true,true,true,true,true,true,true,true,true,true,true,false,false,true,true,false,false,false,true,true,false,false,false,false] rfl rfl (by kernel_rfl) (by decide) (fun K hK=>?_)
      refine goes_ Try.func30 (by kernel_rfl) rfl #[.int .i64 (p j 3)] (by rfl) rfl rfl (by (try simp only[List.map_toArray,List.map_cons,List.map_nil]);first | done | rfl) ?_
      refine (c27.out _).mono ?_
      rintro e1 w21 ⟨rfl,hd⟩
      refine ⟨_,rfl,?_⟩
      refine hK.out _ _ ⟨below_step hHeld.1 hd.below,heap_below hHeld.2.1 hd.below,heap_below hHeld.2.2 hd.below⟩ (fun hHeld=>?_)
      clear hd
      clear hK K;refine norm_ (a':=?_) ?_ ?_
      rotate_left
      ·show Act.put _ (some 115) _=_
       simp only[Act.put,sZ0,sZ1,sZ2,i64_w,i32_w];rfl
      refine pure_ (i:=19) (N:=some 116) (v:=?_) (a':=?_) #[true,true,true,true,true,true,true,true,true,true,true,true,true,true,true,true,true,true,true,true,false,true,true,false,false,false,true,true,false,false,false,false] rfl rfl (by kernel_rfl) (fun _ _ _ h=>h) (Or.inl ⟨by rfl,?_⟩) ?_ ?_
      rotate_left
      ·intro w'
       refine (exec_add w' 9 _ _ _ (by rfl) (.string S26) (.string N27) _ (by rfl) (by rfl) (a27.out w')).trans ?_;with_reducible rfl
      rotate_left
      ·simp only[Act.put,sZ0,sZ1,sZ2,i64_w,i32_w];rfl
      refine pure_ (i:=20) (N:=some 117) (v:=?_) (a':=?_) #[true,true,true,true,true,true,true,true,true,true,true,true,true,true,true,true,true,true,true,true,true,true,true,false,false,false,true,true,false,false,false,false] rfl rfl (by kernel_rfl) (fun _ _ _ h=>h) (Or.inl ⟨by rfl,?_⟩) ?_ ?_
      rotate_left
      ·intro w'
       refine (exec_add w' 9 _ _ _ (by rfl) (.string S27) (.string { data:=#[32,98,108,111,99,107,115,32] }) _ (by rfl) (by rfl) (a28.out w')).trans ?_;with_reducible rfl
      rotate_left
      ·simp only[Act.put,sZ0,sZ1,sZ2,i64_w,i32_w];rfl
      refine one_ (i:=23) (N:=some 120) #[true,true,true,true,true,true,true,true,true,true,true,true,true,true,true,true,true,true,true,true,true,true,true,true,false,false,true,true,false,false,false,false] rfl rfl (by kernel_rfl) (by decide) (fun K hK=>?_)
      refine goes_ Try.func30 (by kernel_rfl) rfl #[.int .i64 (p j 4)] (by rfl) rfl rfl (by (try simp only[List.map_toArray,List.map_cons,List.map_nil]);first | done | rfl) ?_
      refine (c29.out _).mono ?_
      rintro e1 w21 ⟨rfl,hd⟩
      refine ⟨_,rfl,?_⟩
      refine hK.out _ _ ⟨below_step hHeld.1 hd.below,heap_below hHeld.2.1 hd.below,heap_below hHeld.2.2 hd.below⟩ (fun hHeld=>?_)
      clear hd
      clear hK K;refine norm_ (a':=?_) ?_ ?_
      rotate_left
      ·show Act.put _ (some 120) _=_
       simp only[Act.put,sZ0,sZ1,sZ2,i64_w,i32_w];rfl
      refine pure_ (i:=24) (N:=some 121) (v:=?_) (a':=?_) #[true,true,true,true,true,true,true,true,true,true,true,true,true,true,true,true,true,true,true,true,true,true,true,true,true,false,true,true,false,false,false,false] rfl rfl (by kernel_rfl) (fun _ _ _ h=>h) (Or.inl ⟨by rfl,?_⟩) ?_ ?_
      rotate_left
      ·intro w'
       refine (exec_add w' 9 _ _ _ (by rfl) (.string S28) (.string N29) _ (by rfl) (by rfl) (a29.out w')).trans ?_;with_reducible rfl
      rotate_left
      ·simp only[Act.put,sZ0,sZ1,sZ2,i64_w,i32_w];rfl
      refine pure_ (i:=25) (N:=some 122) (v:=?_) (a':=?_) #[true,true,true,true,true,true,true,true,true,true,true,true,true,true,true,true,true,true,true,true,true,true,true,true,true,true,true,true,false,false,false,false] rfl rfl (by kernel_rfl) (fun _ _ _ h=>h) (Or.inl ⟨by rfl,?_⟩) ?_ ?_
      rotate_left
      ·intro w'
       refine (exec_add w' 9 _ _ _ (by rfl) (.string S29) (.string { data:=#[32,115,116,97,108,101,32] }) _ (by rfl) (by rfl) (a30.out w')).trans ?_;with_reducible rfl
      rotate_left
      ·simp only[Act.put,sZ0,sZ1,sZ2,i64_w,i32_w];rfl
      refine one_ (i:=28) (N:=some 125) #[true,true,true,true,true,true,true,true,true,true,true,true,true,true,true,true,true,true,true,true,true,true,true,true,true,true,true,true,true,false,false,false] rfl rfl (by kernel_rfl) (by decide) (fun K hK=>?_)
      refine goes_ Try.func30 (by kernel_rfl) rfl #[.int .i64 (p j 5)] (by rfl) rfl rfl (by (try simp only[List.map_toArray,List.map_cons,List.map_nil]);first | done | rfl) ?_
      refine (c31.out _).mono ?_
      rintro e1 w21 ⟨rfl,hd⟩
      refine ⟨_,rfl,?_⟩
      refine hK.out _ _ ⟨below_step hHeld.1 hd.below,heap_below hHeld.2.1 hd.below,heap_below hHeld.2.2 hd.below⟩ (fun hHeld=>?_)
      clear hd
      have bw21:=Lib.hid hHeld.1
      have gw21:=Lib.hid hHeld.2.1
      have kw21:=Lib.hid hHeld.2.2
      clear hK K;refine norm_ (a':=?_) ?_ ?_
      rotate_left
      ·show Act.put _ (some 125) _=_
       simp only[Act.put,sZ0,sZ1,sZ2,i64_w,i32_w];rfl
      refine pure_ (i:=29) (N:=some 126) (v:=?_) (a':=?_) #[true,true,true,true,true,true,true,true,true,true,true,true,true,true,true,true,true,true,true,true,true,true,true,true,true,true,true,true,true,true,false,false] rfl rfl (by kernel_rfl) (fun _ _ _ h=>h) (Or.inl ⟨by rfl,?_⟩) ?_ ?_
      rotate_left
      ·intro w'
       refine (exec_add w' 9 _ _ _ (by rfl) (.string S30) (.string N31) _ (by rfl) (by rfl) (a31.out w')).trans ?_;with_reducible rfl
      rotate_left
      ·simp only[Act.put,sZ0,sZ1,sZ2,i64_w,i32_w];rfl
      refine pure_ (i:=30) (N:=some 127) (v:=?_) (a':=?_) #[true,true,true,true,true,true,true,true,true,true,true,true,true,true,true,true,true,true,true,true,true,true,true,true,true,true,true,true,true,true,true,false] rfl rfl (by kernel_rfl) (fun _ _ _ h=>h) (Or.inl ⟨by rfl,?_⟩) ?_ ?_
      rotate_left
      ·intro w'
       refine (exec_add w' 9 _ _ _ (by rfl) (.string S31) (.string { data:=#[10] }) _ (by rfl) (by rfl) (a32.out w')).trans ?_;with_reducible rfl
      rotate_left
      ·simp only[Act.put,sZ0,sZ1,sZ2,i64_w,i32_w];rfl
      refine pure_ (i:=31) (N:=some 3) (v:=?_) (a':=?_) #[true,true,true,true,true,true,true,true,true,true,true,true,true,true,true,true,true,true,true,true,true,true,true,true,true,true,true,true,true,true,true,true] rfl rfl (by kernel_rfl) (fun _ _ _ h=>h) (Or.inl ⟨by rfl,?_⟩) ?_ ?_
      rotate_left
      ·intro w';go_simp;with_reducible rfl
      rotate_left
      ·simp only[Act.put,sZ0,sZ1,sZ2,i64_w,i32_w];rfl
      refine done_ (by kernel_rfl) ?_
      go_wp2_with fail
      exact ⟨⟨j+1,hj1.out,by push_cast;rfl,by rw[hsuc.out,if_pos (by trivial),← hfs.out],gw21.out,bw21.out⟩,by have:=hj1.out;simp only[intOf];omega⟩
    obtain rfl:j=4:=by omega
    have hres:=Lib.hid (show S0=strOfNums (htL E f b p e u ro) by rw[hS0,hM0,hMZ'.out,hMy.out,hM0'.out,← rtL_eq];rfl)
    clear hlt hj hg hb hM0 hS0 hlj hfin
    go_wp2_with fail
    go_ret
    exact ⟨by rw[← hres.out];rfl,hb2.out⟩
end Go.Proofs.Ytiogdomjmjiahaa.Own
