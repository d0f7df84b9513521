/- CmU, pruned (slim.py). -/
import Derived.Test.YtiogdomjmjiahaaZE8
import Derived.Test.YtiogdomjmjiahaaZE9
import Derived.Deep.AppendSrc
import Derived.Deep.Upon
namespace Go.Proofs.Ytiogdomjmjiahaa.Own
open Go.RowKit Go.Proofs.Ytiogdomjmjiahaa.Arr Go.Proofs.Ytiogdomjmjiahaa.QA Go.Proofs.YtiogdomjmjiahaaW.PrintWords Go.Proofs.YtiogdomjmjiahaaW.PrintLast Go.Proofs.YtiogdomjmjiahaaW.PrintMore
set_option linter.unusedVariables false
set_option linter.unusedSimpArgs false
theorem u8_one (l : List Int) : ∀ u ∈ l.map (Value.int .u8), u.oneCell' = true := by
  intro u hu
  obtain ⟨x, _, rfl⟩ := List.mem_map.1 hu
  rfl
section
variable {P : Program} {a : Act} {op : Oper}
theorem exec_append (w : World) (x y : Operand) (t1 t2 : TypeId) (ho : op.op = .call { callee := .builtin .append, args := #[x, y], argTypes := #[t1, t2] }) {v : Value} {w1 : World} (vx vy : Value) (hx : a.eval x = vx) (hy : a.eval y = vy)
    (hr : (Builtin.append_ #[t1, t2] op.type #[vx, vy]).run P w = .ok v w1) : (execOp a.eval op).run P w = .ok (.value v) w1 := by
  unfold execOp
  simp only [ho, resolve, invoke, builtin, Sem.run_bind, Sem.run_pure, Result.andThen_ok, List.map_toArray, List.map_cons, List.map_nil, hx, hy, hr]
end
def byt (x : Int) : Prop := 0 ≤ x ∧ x < 256
end Go.Proofs.Ytiogdomjmjiahaa.Own
