/- ShU, pruned (slim.py). -/
import Derived.Test.YtbajioiiaamokaaZB18
namespace Go.Proofs.Ytbajioiiaamokaa.Own
open Go.RowKit Go.Proofs.Ytbajioiiaamokaa.Arr Go.Proofs.Ytbajioiiaamokaa.QB Go.Proofs.YtbajioiiaamokaaW.PrintWords Go.Proofs.YtbajioiiaamokaaW.PrintLast Go.Proofs.YtbajioiiaamokaaW.PrintMore
set_option linter.unusedVariables false
set_option linter.unusedSimpArgs false
section
variable {P:Program} {ops:Array Oper} {rest:List Oper} {o:Oper} {a:Act} {w:World} {Q:Exit→Act→World→Prop}
theorem wpList_value (hg:o.guard=none) {v:Value} {w1:World} (hrun:(execOp a.eval o).run P w=.ok (.value v) w1) (h:wpList P ops Q rest (a.put o.dst v) w1):wpList P ops Q (o :: rest) a w:=
 wpList_plain hg fun _ hK=>by
  unfold Oper.wp
  rw[hrun]
  exact hK _ _ h
theorem wpList_copy_run (hg:o.guard=none) (x y:Operand) (t1 t2:TypeId) (ho:o.op=.call { callee:=.builtin .copy,args:=#[x,y],argTypes:=#[t1,t2] }) (vx vy:Value) (hx:a.eval x=vx) (hy:a.eval y=vy) {v:Value} {w1:World}
  (hr:(Builtin.copy_ #[t1,t2] o.type #[vx,vy]).run P w=.ok v w1) (h:wpList P ops Q rest (a.put o.dst v) w1):wpList P ops Q (o :: rest) a w:=wpList_value hg (exec_copy w x y t1 t2 ho vx vy hx hy hr) h
end
theorem copy_bytes' {w:World} {A:Option Addr} {c:Nat} {l:List Int} (ty:TypeId) (b d:Nat) (h:Kd.C (Kd.int .u8) w A l.length l) {cs:Array Value} {t:TypeId} (hb:w.heap[b]?=some (.cells cs t (0,0))) (hcs:l.length≤cs.size) (n:Nat) (hn:l.length≤n) :
  (Builtin.copy_ #[23,23] ty #[.slice (some ⟨b,0,none⟩) n d,.slice A l.length c]).run Try.prog w=.ok (.int .i64 (l.length:Int)) (w.setCells b 0 (l.map (Value.int .u8))):=by
 have hsz:(Try.prog.info? 5).map (·.size)=some 1:=by kernel_rfl
 rcases Nat.eq_zero_or_pos l.length with h0 | h0
 ·obtain rfl:=List.length_eq_zero_iff.1 h0
  obtain ⟨i0,hi,_,hs,_⟩:=info_parts info5
  cases A <;> simp[Builtin.copy_,run_underlying Try.underlying23,Builtin.lenOf,Builtin.firstCells,sizeOf,typeInfo,hi,hs,loadCells,loadCellsFrom,storeCells,World.setCells,goInt]
 obtain ⟨b',o',rfl,hr⟩:=C_range h h0
 have:=run_copy_cells (P:=Try.prog) w 23 23 ty 5 b 0 n d ⟨b',o',none⟩ l.length c (l.map (Value.int .u8)) Try.underlying23 hsz (by rw[List.length_map];simp[Nat.min_def,hn]) (fun j v hj=>by rw[Addr.add_mid];exact hr j v hj)
  (fun j hj=>by rw[Nat.zero_add,cell_of_row w b j _ _ _ hb];simp at hj;rw[Array.getElem?_eq_getElem (by omega)];rfl) (fun j hj=>by rw[Nat.zero_add];exact frozen_of_row w b j _ _ hb) (u8_one l)
 rw[this]
 simp[goInt]
end Go.Proofs.Ytbajioiiaamokaa.Own
