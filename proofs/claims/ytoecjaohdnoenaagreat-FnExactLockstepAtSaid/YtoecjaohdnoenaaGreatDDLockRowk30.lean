/-
  Rules, data and contracts of functions: part 31 of the proof.
  Conditions: those that each theorem names.
-/
import Derived.ChangeKeysEq
import Derived.Test.YtoecjaohdnoenaaGreatDDLockRowk29
set_option linter.unusedSimpArgs false
set_option linter.unusedVariables false
set_option maxRecDepth 8000
namespace Go.Proofs.YtoecjaohdnoenaaGreat
section
open Go.RowKit

class TyInts (P:Program) (t:TypeId) (n:outParam Nat):Prop where
 u:P.underlying t=some (.struct (P.fieldsOf t))
 held:P.stoodInHeld t=false
 guard:P.eqGuardType P.depth t=false
 fs : ((P.fieldsOf t).toList.map fun f => (f.name == "_", f.offset, (match P.underlying f.type with | some (.int .i64) => true | _ => false), P.cellsOf f.type)) = (List.range n).map fun i => (false, i, true, 1)
section
variable {P:Program} {ops:Array Oper} {o:Oper} {st:St} {m n:Nat} {t t':TypeId} {y z:Operand} {ps qs:List Nat} {cs ds:List V1} {xs ys:List Int} {b:Bool}
end
instance:TyInts Tryz.prog 241 9:=⟨by kernel_rfl,by kernel_rfl,by kernel_rfl,by kernel_rfl⟩
end
section
open Go.RowKit
end
section
open Go.RowKit

theorem lev_in {x:TMatch} (h:Enc.wt x≤1048576):x.Level.Rows.length≤1048576:=by
 have hw:Enc.wt x=(x.Level.Rows.length+wts x.Level.Rows)+Enc.wt x.Scripts+Enc.wt x.Peers+Enc.wt x.Wires+Enc.wt x.Paces+Enc.wt x.Acks+Enc.wt x.Watchers+Enc.wt x.Lines+Enc.wt x.Alarms:=rfl
 omega
end
end Go.Proofs.YtoecjaohdnoenaaGreat
