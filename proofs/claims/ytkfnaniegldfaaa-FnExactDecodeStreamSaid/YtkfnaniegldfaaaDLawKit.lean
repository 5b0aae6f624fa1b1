/-
  Rules that the laws' walks use: comparing what is equal. No statement of the program is proved here.
  Conditions: none.
-/
import Derived.Test.YtkfnaniegldfaaaDTypes
set_option linter.unusedVariables false
namespace Go.Proofs.Ytkfnaniegldfaaa
open Go.RowKit

section
variable {P : Program} {ops : Array Oper} {o : Oper} {st : St} {m : Nat} {t t' : TypeId} {y z : Operand} {ps qs : List Nat}
theorem q_bneqR {u : Bool} [TyBool P t] (ho : o.op = .binOp .neq t y z t') (hg : o.guard = none) (hy : st.ev y = .o (.c (.rd ps (.v (.bool u))))) (hz : st.ev z = .o (.c (.rd qs (.v (.bool u))))) : Qt P ops o st (B false) [] m := by
  have h := q_bneq (m := m) (P := P) (ops := ops) ho hg hy hz
  rwa [beq_self_eq_true] at h
theorem q_sneqR {u : ByteArray} (ho : o.op = .binOp .neq t y z t') (hg : o.guard = none) (hy : st.ev y = .o (.c (.rd ps (.v (.string u))))) (hz : st.ev z = .o (.c (.rd qs (.v (.string u))))) : Qt P ops o st (B false) [] m :=
  q_sneqK ho hg hy hz (by simp)
theorem q_neqR {k : IntKind} {u : Int} (ho : o.op = .binOp .neq t y z t') (hg : o.guard = none) (hy : st.ev y = .o (.c (.rd ps (.v (.int k u))))) (hz : st.ev z = .o (.c (.rd qs (.v (.int k u))))) : Qt P ops o st (B false) [] m :=
  q_neqK ho hg hy hz (by simp)
/-- moving what a call with several results hands back -/
theorem q_moveT {xs : List V2} (ho : o.op = .move y) (hg : o.guard = none) (hy : st.ev y = .tu xs) : Qt P ops o st (.tu xs) [] m :=
  .pure hg fun a w H F hr => ⟨a.eval y, by simp [execOp, ho], by rw [← hy]; exact hr.ev y⟩
end
end Go.Proofs.Ytkfnaniegldfaaa
