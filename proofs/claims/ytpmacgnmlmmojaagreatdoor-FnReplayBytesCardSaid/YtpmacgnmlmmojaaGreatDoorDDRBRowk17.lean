/-
  Rules, data and contracts of functions: part 18 of the proof.
  Conditions: those that each theorem names.
-/
import Derived.Test.YtpmacgnmlmmojaaGreatDoorDDRBRowk13
set_option linter.unusedSimpArgs false
set_option linter.unusedVariables false
set_option maxRecDepth 8000
namespace Go.Proofs.YtpmacgnmlmmojaaGreatDoor
section
open Go.RowKit
end
section
open Go.RowKit

structure TAlarm where
 Tick:Int
 Parts:(List ByteArray)
 deriving DecidableEq
instance:Enc TAlarm:=⟨2,by omega,fun x => [.v (.int .i64 x.Tick),sl x.Parts],fun _=>rfl,fun x=>Enc.gd x.Tick∧Enc.gd x.Parts,fun x=>Enc.wt x.Parts⟩
theorem TAlarm.same {x y:TAlarm} (h0:x.Tick=y.Tick) (h1:x.Parts=y.Parts):x=y:=by cases x; cases y; simp_all
end
end Go.Proofs.YtpmacgnmlmmojaaGreatDoor
