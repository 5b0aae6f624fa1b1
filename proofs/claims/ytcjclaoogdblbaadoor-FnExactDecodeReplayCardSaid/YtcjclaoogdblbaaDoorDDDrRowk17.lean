/-
  Numbers from text: ParseUint, in the program and in the reference.
  Conditions: texts of at most 2^40 bytes.
  Alarms as data, with the laws' counting, copying and comparing of them. No statement of the program is proved here.
  Conditions: none.
-/
import Derived.Test.YtcjclaoogdblbaaDoorDDDrRowk13
set_option linter.unusedSimpArgs false
set_option linter.unusedVariables false
set_option maxRecDepth 8000
namespace Go.Proofs.YtcjclaoogdblbaaDoor
section
open Go.RowKit

theorem byteAt_l {s : ByteArray} {i : Nat} (h : i < s.size) : ∃ b : UInt8,s.data.toList[i]? = some b ∧ byteAt s i = (b.toNat : Int) := by
 have h1 : i < s.data.size := h
 refine ⟨s.data[i],by simp [h1],?_⟩
 unfold byteAt
 have : s[i]? = some s.data[i] := by
  rw [getElem?_pos s i h]
  rfl
 rw [this]
 rfl
end
section
open Go.RowKit

structure TAlarm where
 Tick : Int
 Parts : (List ByteArray)
 deriving DecidableEq
instance : Enc TAlarm := ⟨2,by omega,fun x => [.v (.int .i64 x.Tick),sl x.Parts],fun _ => rfl,fun x => Enc.gd x.Tick ∧ Enc.gd x.Parts,fun x => Enc.wt x.Parts⟩
theorem TAlarm.same {x y : TAlarm} (h0 : x.Tick = y.Tick) (h1 : x.Parts = y.Parts) : x = y := by cases x; cases y; simp_all
end
end Go.Proofs.YtcjclaoogdblbaaDoor
