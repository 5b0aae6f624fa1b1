/-
  Contracts of the library, laid at this seat by the kit's own tools.
  Conditions: as each states.
-/
import Derived.Shelf.Strings.Builder1
import Derived.Shelf.Strings.Builder2
import Derived.Shelf.Strings.OnBuilder
import Derived.Shelf.Strconv.Itoa0
import Derived.Shelf.Strconv.Itoa1
import Derived.Shelf.LaysM
import Derived.Shelf.Strconv.Itoa2
import Derived.Shelf.Strconv.Itoa3
import Derived.Shelf.Strings.Search1
import Derived.Shelf.Strings.Search2
import Derived.Shelf.Strings.Search3
import Derived.Shelf.Strings.Cut
import Derived.Shelf.Strings.Count
import Derived.Shelf.Strings.Shaped
import Derived.Shelf.Strings.Split
import Derived.Shelf.Unicode.DecodeSlow
import Derived.Test.YtcjclaoogdblbaaDoorProg
set_option linter.unusedVariables false
set_option maxRecDepth 100000
namespace Go.Proofs
open Go.Shelf

def Tryd.lays171_ren : Go.Shelf.Ren := ⟨fun | 171 => 74 | 243 => 112 | 246 => 137 | 283 => 153 | 284 => 154 | 285 => 155 | 286 => 156 | 129 => 162 | 317 => 161 | 318 => 163 | 319 => 164 | 320 => 165 | 337 => 166 | 338 => 167 | n => n,fun | 3 => 3 | 9 => 9 | 2 => 2 | 4 => 4 | 171 => 159 | 0 => 0 | 53 => 160 | 37 => 35 | 5 => 5 | 173 => 163 | 212 => 170 | 51 => 165 | 20 => 20 | 213 => 171 | 46 => 135 | 232 => 179 | 233 => 180 | n => n,fun | 17 => 1 | 18 => 4 | 19 => 5 | n => n⟩
theorem Tryd.lays171 : Go.Proofs.Lays.n171 Tryd.prog Tryd.lays171_ren := {
 mixed := by kernel_rfl
 f129 := Tryd.func162.trans (congrArg some (by kernel_rfl))
 f171 := Tryd.func74.trans (congrArg some (by kernel_rfl))
 f243 := Tryd.func112.trans (congrArg some (by kernel_rfl))
 f246 := Tryd.func137.trans (congrArg some (by kernel_rfl))
 f283 := Tryd.func153.trans (congrArg some (by kernel_rfl))
 f284 := Tryd.func154.trans (congrArg some (by kernel_rfl))
 f285 := Tryd.func155.trans (congrArg some (by kernel_rfl))
 f286 := Tryd.func156.trans (congrArg some (by kernel_rfl))
 f317 := Tryd.func161.trans (congrArg some (by kernel_rfl))
 f318 := Tryd.func163.trans (congrArg some (by kernel_rfl))
 f319 := Tryd.func164.trans (congrArg some (by kernel_rfl))
 f320 := Tryd.func165.trans (congrArg some (by kernel_rfl))
 f337 := Tryd.func166.trans (congrArg some (by kernel_rfl))
 f338 := Tryd.func167.trans (congrArg some (by kernel_rfl))
 t0 := Tryd.underlying0
 a0 := Tryd.isAgg0
 z0 := Tryd.sizeOf0
 v0 := Tryd.zeroValue0
 t2 := Tryd.underlying2
 a2 := Tryd.isAgg2
 z2 := Tryd.sizeOf2
 v2 := Tryd.zeroValue2
 t3 := Tryd.underlying3
 a3 := Tryd.isAgg3
 z3 := Tryd.sizeOf3
 v3 := Tryd.zeroValue3
 t4 := Tryd.underlying4
 a4 := Tryd.isAgg4
 z4 := Tryd.sizeOf4
 v4 := Tryd.zeroValue4
 t5 := Tryd.underlying5
 a5 := Tryd.isAgg5
 z5 := Tryd.sizeOf5
 v5 := Tryd.zeroValue5
 t9 := Tryd.underlying9
 a9 := Tryd.isAgg9
 z9 := Tryd.sizeOf9
 v9 := Tryd.zeroValue9
 t20 := Tryd.underlying20
 a20 := Tryd.isAgg20
 z20 := Tryd.sizeOf20
 v20 := Tryd.zeroValue20
 t37 := Tryd.underlying35
 a37 := Tryd.isAgg35
 z37 := Tryd.sizeOf35
 v37 := Tryd.zeroValue35
 t46 := Tryd.underlying135
 a46 := Tryd.isAgg135
 z46 := Tryd.sizeOf135
 v46 := Tryd.zeroValue135
 t51 := Tryd.underlying165
 a51 := Tryd.isAgg165
 z51 := Tryd.sizeOf165
 v51 := Tryd.zeroValue165
 t53 := Tryd.underlying160
 a53 := Tryd.isAgg160
 z53 := Tryd.sizeOf160
 v53 := Tryd.zeroValue160
 t171 := Tryd.underlying159
 a171 := Tryd.isAgg159
 z171 := Tryd.sizeOf159
 v171 := Tryd.zeroValue159
 t173 := Tryd.underlying163
 a173 := Tryd.isAgg163
 z173 := Tryd.sizeOf163
 v173 := Tryd.zeroValue163
 t212 := Tryd.underlying170
 a212 := Tryd.isAgg170
 z212 := Tryd.sizeOf170
 v212 := Tryd.zeroValue170
 t213 := Tryd.underlying171
 a213 := Tryd.isAgg171
 z213 := Tryd.sizeOf171
 t232 := Tryd.underlying179
 a232 := Tryd.isAgg179
 z232 := Tryd.sizeOf179
 v232 := Tryd.zeroValue179
 t233 := Tryd.underlying180
 a233 := Tryd.isAgg180
 z233 := Tryd.sizeOf180
 v233 := Tryd.zeroValue180
 g17 := by kernel_rfl
 g18 := by kernel_rfl
 g19 := by kernel_rfl }
open Go.RowKit Go.Sort Go.Lib in
theorem Tryd.strconv_Itoa_small (i : Nat) (hi : i < 100) (w : World) :
  Calls Tryd.prog 74 #[.int .i64 i] w fun e w' => e = .returned (.string ⟨(Lib.decDigits i).toArray⟩) ∧ w' = w := Any.strconv_Itoa_small Tryd.lays171 i hi w

end Go.Proofs

