/-
  Rules for literals of structs and slices, and for appending what is owned. No statement of the program is proved here.
  Conditions: none.
-/
import Derived.Great.BuildSlice
import Derived.Laws.Tables
import Derived.Test.YtbpebmolbdplmaaDDTrueRowk3
section
set_option linter.unusedSimpArgs false
set_option linter.unusedVariables false
namespace Go.Proofs.Ytbpebmolbdplmaa
open Go.RowKit

def cellsOf : V → List V1
  | .o (.c x) => [x]
  | .o (.ag xs) => xs
  | .tu _ => []
  | .iff _ _ => []
section
variable {P : Program} {E : Env} {ops : Array Oper} {o : Oper} {st : St} {n : Nat} {rest : List Oper} {QQ : Exit → St → Prop} {w w' : World} {H H' : Hs} {F : Nat → Prop} {a : Act}

section
variable {y z : Operand} {t t' : TypeId} {k : IntKind} {i j : Int} {ps qs : List Nat}
end
end
end Go.Proofs.Ytbpebmolbdplmaa
end
