/- CoH, pruned (slim.py). -/
import Derived.Test.YtiogdomjmjiahaaZH6
import Derived.Test.YtiogdomjmjiahaaZH9
namespace Go.Proofs.Ytiogdomjmjiahaa.Own
open Go.RowKit Go.Proofs.Ytiogdomjmjiahaa.Arr Go.Proofs.Ytiogdomjmjiahaa.QA Go.Proofs.Ytiogdomjmjiahaa.QB Go.Proofs.YtiogdomjmjiahaaW.PrintWords Go.Proofs.YtiogdomjmjiahaaW.PrintLast Go.Proofs.YtiogdomjmjiahaaW.PrintMore
set_option linter.unusedVariables false
set_option linter.unusedSimpArgs false
attribute [-go_sem] Instr.build
section
variable {P:Program}
end
section
variable {P:Program} {a:Act} {op:Oper}
end
section
variable {P:Program} {a:Act} {op:Oper}
theorem exec_add (w:World) (ty ty2:TypeId) (x y:Operand) (ho:op.op=.binOp .add ty x y ty2) (vx vy v:Value) (hx:a.eval x=vx) (hy:a.eval y=vy)
  (hr:(binOp .add ty vx vy).run P w=.ok v w):(execOp a.eval op).run P w=.ok (.value v) w:=by
 unfold execOp
 simp[ho,hx,hy,Sem.run_bind,Sem.run_pure,Result.andThen_ok,eqGuard,hr]
end
theorem str_add (W:World) (a b:List Int) (h:a.length+b.length≤9223372036854775807):(binOp .add 9 (.string (strOfNums a)) (.string (strOfNums b))).run Try.prog W=.ok (.string (strOfNums (a++b))) W:=by
 rw[show strOfNums (a++b)=strOfNums a++strOfNums b by apply ByteArray.ext;simp[strOfNums]]
 have h' : ¬ 9223372036854775807<(strOfNums a).size+(strOfNums b).size:=by rw[strOfNums_size,strOfNums_size];omega
 go_simp
end Go.Proofs.Ytiogdomjmjiahaa.Own
