/-
  Contracts of the library, laid at this seat by the kit's own tools.
  Conditions: as each states.
-/
import Derived.Shelf.Strings.Builder1
import Derived.Shelf.Strings.Builder2
import Derived.Shelf.Strings.OnBuilder
import Derived.Shelf.Strconv.Itoa0
import Derived.Shelf.Strconv.Itoa1
import Derived.Shelf.LaysM
import Derived.Shelf.Strconv.Itoa2
import Derived.Shelf.Strconv.Itoa3
import Derived.Shelf.Strings.Search1
import Derived.Shelf.Strings.Search2
import Derived.Shelf.Strings.Search3
import Derived.Shelf.Strings.Cut
import Derived.Shelf.Strings.Count
import Derived.Shelf.Strings.Shaped
import Derived.Shelf.Strings.Split
import Derived.Shelf.Unicode.DecodeSlow
import Derived.Test.YtcjclaoogdblbaaDoorProg
set_option linter.unusedVariables false
set_option maxRecDepth 100000
namespace Go.Proofs
open Go.Shelf

def Tryd.lays146_ren : Go.Shelf.Ren := ⟨fun | 146 => 39 | 221 => 79 | 268 => 116 | 138 => 117 | 143 => 118 | 195 => 144 | 197 => 145 | 218 => 146 | 219 => 115 | 260 => 159 | 217 => 140 | 225 => 141 | 224 => 142 | 267 => 143 | 266 => 157 | 314 => 158 | n => n,fun | 9 => 9 | 31 => 22 | 3 => 3 | 4 => 4 | 0 => 0 | 105 => 154 | 21 => 21 | 5 => 5 | 46 => 135 | 119 => 174 | 139 => 177 | 138 => 176 | 146 => 166 | 51 => 165 | n => n,fun | 1 => 0 | 3 => 2 | 4 => 3 | n => n⟩
theorem Tryd.lays146 : Go.Proofs.Lays.n146 Tryd.prog Tryd.lays146_ren := {
 mixed := by kernel_rfl
 f138 := Tryd.func117.trans (congrArg some (by kernel_rfl))
 f143 := Tryd.func118.trans (congrArg some (by kernel_rfl))
 f146 := Tryd.func39.trans (congrArg some (by kernel_rfl))
 f195 := Tryd.func144.trans (congrArg some (by kernel_rfl))
 f197 := Tryd.func145.trans (congrArg some (by kernel_rfl))
 f217 := Tryd.func140.trans (congrArg some (by kernel_rfl))
 f218 := Tryd.func146.trans (congrArg some (by kernel_rfl))
 f219 := Tryd.func115.trans (congrArg some (by kernel_rfl))
 f221 := Tryd.func79.trans (congrArg some (by kernel_rfl))
 f224 := Tryd.func142.trans (congrArg some (by kernel_rfl))
 f225 := Tryd.func141.trans (congrArg some (by kernel_rfl))
 f260 := Tryd.func159.trans (congrArg some (by kernel_rfl))
 f266 := Tryd.func157.trans (congrArg some (by kernel_rfl))
 f267 := Tryd.func143.trans (congrArg some (by kernel_rfl))
 f268 := Tryd.func116.trans (congrArg some (by kernel_rfl))
 f314 := Tryd.func158.trans (congrArg some (by kernel_rfl))
 t0 := Tryd.underlying0
 a0 := Tryd.isAgg0
 z0 := Tryd.sizeOf0
 v0 := Tryd.zeroValue0
 t3 := Tryd.underlying3
 a3 := Tryd.isAgg3
 z3 := Tryd.sizeOf3
 v3 := Tryd.zeroValue3
 t4 := Tryd.underlying4
 a4 := Tryd.isAgg4
 z4 := Tryd.sizeOf4
 v4 := Tryd.zeroValue4
 t5 := Tryd.underlying5
 a5 := Tryd.isAgg5
 z5 := Tryd.sizeOf5
 v5 := Tryd.zeroValue5
 t9 := Tryd.underlying9
 a9 := Tryd.isAgg9
 z9 := Tryd.sizeOf9
 v9 := Tryd.zeroValue9
 t21 := Tryd.underlying21
 a21 := Tryd.isAgg21
 z21 := Tryd.sizeOf21
 v21 := Tryd.zeroValue21
 t31 := Tryd.underlying22
 a31 := Tryd.isAgg22
 z31 := Tryd.sizeOf22
 v31 := Tryd.zeroValue22
 t46 := Tryd.underlying135
 a46 := Tryd.isAgg135
 z46 := Tryd.sizeOf135
 v46 := Tryd.zeroValue135
 t51 := Tryd.underlying165
 a51 := Tryd.isAgg165
 z51 := Tryd.sizeOf165
 v51 := Tryd.zeroValue165
 t105 := Tryd.underlying154
 a105 := Tryd.isAgg154
 z105 := Tryd.sizeOf154
 v105 := Tryd.zeroValue154
 t119 := Tryd.underlying174
 a119 := Tryd.isAgg174
 z119 := Tryd.sizeOf174
 t138 := Tryd.underlying176
 a138 := Tryd.isAgg176
 z138 := Tryd.sizeOf176
 v138 := Tryd.zeroValue176
 t139 := Tryd.underlying177
 a139 := Tryd.isAgg177
 z139 := Tryd.sizeOf177
 v139 := Tryd.zeroValue177
 t146 := Tryd.underlying166
 a146 := Tryd.isAgg166
 z146 := Tryd.sizeOf166
 v146 := Tryd.zeroValue166
 g1 := by kernel_rfl
 g3 := by kernel_rfl
 g4 := by kernel_rfl }
open Go.RowKit Go.Lib in
theorem Tryd.strings_Split (s sep : ByteArray) (m : Int) (w : World) (hs : s.size < 4294967281) (hm : w.cell? ⟨0,0,none⟩ = some (.int .i64 m)) (h1 : 1 ≤ sep.size) :
  Calls Tryd.prog 39 #[.string s,.string sep] w fun e w' =>
   e = .returned (.slice (some ⟨w.heap.size,0,none⟩) (Lib.countB s sep + 1) (Lib.countB s sep + 1)) ∧ w' = w.alloc (.cells ((Lib.splitB sep 0 (Lib.countB s sep) s).map Value.string).toArray 9) := Any.strings_Split Tryd.lays146 (by kernel_rfl) s sep m w hs hm h1

end Go.Proofs

