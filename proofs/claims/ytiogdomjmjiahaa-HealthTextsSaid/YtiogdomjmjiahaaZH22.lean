/- HtE, pruned (slim.py). -/
import Derived.Test.YtiogdomjmjiahaaZH19
import Derived.DeepKeys
namespace Go.Proofs.Ytiogdomjmjiahaa.Own
open Go.RowKit Go.Proofs.Ytiogdomjmjiahaa.Arr Go.Proofs.Ytiogdomjmjiahaa.QA Go.Proofs.Ytiogdomjmjiahaa.QB Go.Proofs.YtiogdomjmjiahaaW.PrintWords Go.Proofs.YtiogdomjmjiahaaW.PrintLast Go.Proofs.YtiogdomjmjiahaaW.PrintMore
set_option linter.unusedVariables false
set_option linter.unusedSimpArgs false
def inI (n:Int):Prop := -9223372036854775808≤n∧n<9223372036854775808
theorem wf_inI {n:Int} (h:inI n):(Lit.int .i64 n).wf=true:=by
 obtain ⟨h1,h2⟩:=h
 simp[Lit.wf,IntKind.min,IntKind.max,IntKind.signed,IntKind.bits]
 omega
theorem lit_int (d:Nat) (n:Int) (h:inI n):Try.prog.keyLits (d+1) 3 [.int .i64 n]=some [.int .i64 n]:=by
 unfold Program.keyLits
 rw[Try.underlying3]
 simp[wf_inI h]
theorem lit_bool (d:Nat) (b:Bool):Try.prog.keyLits (d+1) 4 [.bool b]=some [.bool b]:=by
 unfold Program.keyLits
 rw[Try.underlying4]
def spLit (b:Nat→Bool) (p:Nat→Nat→Int) (j:Nat):List Lit:=[.bool (b j),.int .i64 (p j 1),.int .i64 (p j 2),.int .i64 (p j 3),.int .i64 (p j 4),.int .i64 (p j 5)]
theorem lit_space (b:Nat→Bool) (p:Nat→Nat→Int) (hp:∀ j k,inI (p j k)) (d j:Nat):Try.prog.keyLits (d+2) 43 (spacl b p j)=some (spLit b p j):=by
 have hc:Try.prog.cellsOf 43=6:=by kernel_rfl
 have hc3:Try.prog.cellsOf 3=1:=by kernel_rfl
 have hc4:Try.prog.cellsOf 4=1:=by kernel_rfl
 unfold Program.keyLits
 rw[Try.underlying43]
 simp[hc,hc3,hc4,lit_int d _ (hp j _),lit_bool d,spLit]
theorem lit_space2 (b:Nat→Bool) (p:Nat→Nat→Int) (hp:∀ j k,inI (p j k)) (d j:Nat):Try.prog.keyLits (d+2) 48 (spacl b p j)=some (spLit b p j):=by
 have hc:Try.prog.cellsOf 48=6:=by kernel_rfl
 have hc3:Try.prog.cellsOf 3=1:=by kernel_rfl
 have hc4:Try.prog.cellsOf 4=1:=by kernel_rfl
 unfold Program.keyLits
 rw[Try.underlying48]
 simp[hc,hc3,hc4,lit_int d _ (hp j _),lit_bool d,spLit]
def spLits (b:Nat→Bool) (p:Nat→Nat→Int):List Lit:=spLit b p 0++(spLit b p 1++(spLit b p 2++spLit b p 3))
theorem lit_spaces (b:Nat→Bool) (p:Nat→Nat→Int) (hp:∀ j k,inI (p j k)) (d:Nat):Try.prog.keyLits (d+3) 44 (spaces b p)=some (spLits b p):=by
 have hc:Try.prog.cellsOf 43=6:=by kernel_rfl
 have hc4:Try.prog.cellsOf 44=24:=by kernel_rfl
 unfold Program.keyLits
 rw[Try.underlying44]
 have h0:=lit_space b p hp d 0
 have h1:=lit_space b p hp d 1
 have h2:=lit_space b p hp d 2
 have h3:=lit_space b p hp d 3
 have hr:List.range 4=[0,1,2,3]:=rfl
 simp only[hc,hc4,hr,List.mapM_cons,List.mapM_nil]
 rw[if_pos (show (spaces b p).length=24 from rfl)]
 rw[show ((spaces b p).drop (0*6)).take 6=spacl b p 0 from rfl,show ((spaces b p).drop (1*6)).take 6=spacl b p 1 from rfl,show ((spaces b p).drop (2*6)).take 6=spacl b p 2 from rfl,show ((spaces b p).drop (3*6)).take 6=spacl b p 3 from rfl,h0,h1,h2,h3]
 rfl
theorem lit_spaces2 (b:Nat→Bool) (p:Nat→Nat→Int) (hp:∀ j k,inI (p j k)) (d:Nat):Try.prog.keyLits (d+3) 49 (spaces b p)=some (spLits b p):=by
 have hc:Try.prog.cellsOf 48=6:=by kernel_rfl
 have hc4:Try.prog.cellsOf 49=24:=by kernel_rfl
 unfold Program.keyLits
 rw[Try.underlying49]
 have h0:=lit_space2 b p hp d 0
 have h1:=lit_space2 b p hp d 1
 have h2:=lit_space2 b p hp d 2
 have h3:=lit_space2 b p hp d 3
 have hr:List.range 4=[0,1,2,3]:=rfl
 simp only[hc,hc4,hr,List.mapM_cons,List.mapM_nil]
 rw[if_pos (show (spaces b p).length=24 from rfl)]
 rw[show ((spaces b p).drop (0*6)).take 6=spacl b p 0 from rfl,show ((spaces b p).drop (1*6)).take 6=spacl b p 1 from rfl,show ((spaces b p).drop (2*6)).take 6=spacl b p 2 from rfl,show ((spaces b p).drop (3*6)).take 6=spacl b p 3 from rfl,h0,h1,h2,h3]
 rfl
abbrev eightC (f:Nat→Int):List Value:=[.int .i64 (f 1),.int .i64 (f 2),.int .i64 (f 3),.int .i64 (f 4),.int .i64 (f 5),.int .i64 (f 6),.int .i64 (f 7),.int .i64 (f 8)]
def eightL (f:Nat→Int):List Lit:=[.int .i64 (f 1),.int .i64 (f 2),.int .i64 (f 3),.int .i64 (f 4),.int .i64 (f 5),.int .i64 (f 6),.int .i64 (f 7),.int .i64 (f 8)]
theorem lit_eight (f:Nat→Int) (hf:∀ k,inI (f k)) (d:Nat):Try.prog.keyLits (d+2) 111 (eightC f)=some (eightL f):=by
 have hc:Try.prog.cellsOf 3=1:=by kernel_rfl
 have hc4:Try.prog.cellsOf 111=8:=by kernel_rfl
 unfold Program.keyLits
 rw[Try.underlying111]
 have hr:List.range 8=[0,1,2,3,4,5,6,7]:=rfl
 simp only[hc,hc4,hr,List.mapM_cons,List.mapM_nil]
 rw[if_pos (show (eightC f).length=8 from rfl)]
 simp[lit_int d _ (hf _),eightL]
open Classical in
theorem eq_of_at {t:TypeId} {D:Nat} {xs ys:List Value} {la lb:List Lit} (hE:EqAt Try.prog 10000 t) (fx:(Value.agg xs.toArray).formed Try.prog t=true) (fy:(Value.agg ys.toArray).formed Try.prog t=true) (hx:Try.prog.keyLits D t xs=some la) (hy:Try.prog.keyLits D t ys=some lb) (W:World) :
  (Op.equalIn 10000 t (.agg xs.toArray) (.agg ys.toArray)).run Try.prog W=.ok (decide (la=lb)) W:=by
 obtain ⟨r,h1,h2⟩:=hE W D D (.agg xs.toArray) (.agg ys.toArray) la lb fx fy (by simpa [Value.cells] using hx) (by simpa [Value.cells] using hy)
 have hr:r=decide (la=lb):=by
  cases r with
  |true=>exact (decide_eq_true (h2.1 rfl)).symm
  |false=>exact (decide_eq_false (fun e=>by have:=h2.2 e;cases this)).symm
 rw[h1,hr]
open Classical in
theorem spaces_neq (b b':Nat→Bool) (p p':Nat→Nat→Int) (hp:∀ j k,inI (p j k)) (hp':∀ j k,inI (p' j k)) (W:World) :
  (binOp .neq 44 (.agg (spaces b p).toArray) (.agg (spaces b' p').toArray)).run Try.prog W=.ok (.bool (!decide (spLits b p=spLits b' p'))) W:=by
 rw[run_neq_struct,eq_of_at (D:=3) (run_equalIn_deep 9990 10 _ (by kernel_rfl)) (by kernel_rfl) (by kernel_rfl) (lit_spaces b p hp 0) (lit_spaces b' p' hp' 0)]
 rfl
open Classical in
theorem spaces_eql (b b':Nat→Bool) (p p':Nat→Nat→Int) (hp:∀ j k,inI (p j k)) (hp':∀ j k,inI (p' j k)) (W:World) :
  (binOp .eql 49 (.agg (spaces b p).toArray) (.agg (spaces b' p').toArray)).run Try.prog W=.ok (.bool (decide (spLits b p=spLits b' p'))) W:=by
 rw[run_eql_struct,eq_of_at (D:=3) (run_equalIn_deep 9990 10 _ (by kernel_rfl)) (by kernel_rfl) (by kernel_rfl) (lit_spaces2 b p hp 0) (lit_spaces2 b' p' hp' 0)]
 rfl
open Classical in
theorem eight_eql (f f':Nat→Int) (hf:∀ k,inI (f k)) (hf':∀ k,inI (f' k)) (W:World) :
  (binOp .eql 111 (.agg (eightC f).toArray) (.agg (eightC f').toArray)).run Try.prog W=.ok (.bool (decide (eightL f=eightL f'))) W:=by
 rw[run_eql_struct,eq_of_at (D:=2) (run_equalIn_deep 9990 10 _ (by kernel_rfl)) (by kernel_rfl) (by kernel_rfl) (lit_eight f hf 0) (lit_eight f' hf' 0)]
 rfl
theorem eightL_iff (f f':Nat→Int):eightL f=eightL f'↔(f 1=f' 1∧f 2=f' 2∧f 3=f' 3∧f 4=f' 4∧f 5=f' 5∧f 6=f' 6∧f 7=f' 7∧f 8=f' 8):=by
 unfold eightL
 simp
end Go.Proofs.Ytiogdomjmjiahaa.Own
