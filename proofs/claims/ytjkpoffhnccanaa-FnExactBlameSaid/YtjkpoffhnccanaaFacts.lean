/-
  Of each type of the translation: whether its value is a row of cells, of how many cells, and its zero value. Made by a program of this claim's author (facts.py); no statement of the program is proved here.
  Conditions: none.
-/
import Derived.Test.YtjkpoffhnccanaaChecked
import Derived.Test.YtjkpoffhnccanaaRow
import Derived.KernelRfl
namespace Go.Proofs.Ytjkpoffhnccanaa
open Go.Proofs

instance : TyOne Try.prog 2 := ⟨by kernel_rfl, by kernel_rfl, by kernel_rfl⟩
instance : TyZero Try.prog 2 [.int .i64 0] := ⟨by kernel_rfl⟩
instance : TyOne Try.prog 3 := ⟨by kernel_rfl, by kernel_rfl, by kernel_rfl⟩
instance : TyZero Try.prog 3 [.int .i64 0] := ⟨by kernel_rfl⟩
instance : TyOne Try.prog 4 := ⟨by kernel_rfl, by kernel_rfl, by kernel_rfl⟩
instance : TyZero Try.prog 4 [.bool false] := ⟨by kernel_rfl⟩
instance : TyOne Try.prog 5 := ⟨by kernel_rfl, by kernel_rfl, by kernel_rfl⟩
instance : TyZero Try.prog 5 [.int .u8 0] := ⟨by kernel_rfl⟩
instance : TyOne Try.prog 9 := ⟨by kernel_rfl, by kernel_rfl, by kernel_rfl⟩
instance : TyZero Try.prog 9 [.string ⟨#[]⟩] := ⟨by kernel_rfl⟩
instance : TyOne Try.prog 12 := ⟨by kernel_rfl, by kernel_rfl, by kernel_rfl⟩
instance : TyZero Try.prog 12 [.int .u64 0] := ⟨by kernel_rfl⟩
instance : TyOne Try.prog 21 := ⟨by kernel_rfl, by kernel_rfl, by kernel_rfl⟩
instance : TyZero Try.prog 21 [.int .i32 0] := ⟨by kernel_rfl⟩
instance : TyMake Try.prog 22 3 [.int .i64 0] 8 := ⟨by kernel_rfl, by kernel_rfl⟩
instance : TyOne Try.prog 22 := ⟨by kernel_rfl, by kernel_rfl, by kernel_rfl⟩
instance : TyZero Try.prog 22 [.slice none 0 0] := ⟨by kernel_rfl⟩
instance : TyMake Try.prog 27 22 [.slice none 0 0] 24 := ⟨by kernel_rfl, by kernel_rfl⟩
instance : TyOne Try.prog 27 := ⟨by kernel_rfl, by kernel_rfl, by kernel_rfl⟩
instance : TyZero Try.prog 27 [.slice none 0 0] := ⟨by kernel_rfl⟩
instance : TyMake Try.prog 32 9 [.string ⟨#[]⟩] 16 := ⟨by kernel_rfl, by kernel_rfl⟩
instance : TyOne Try.prog 32 := ⟨by kernel_rfl, by kernel_rfl, by kernel_rfl⟩
instance : TyZero Try.prog 32 [.slice none 0 0] := ⟨by kernel_rfl⟩
instance : TyRow Try.prog 33 1 := ⟨by kernel_rfl, by kernel_rfl⟩
instance : TyZero Try.prog 33 [.slice none 0 0] := ⟨by kernel_rfl⟩
instance : TyRow Try.prog 34 1 := ⟨by kernel_rfl, by kernel_rfl⟩
instance : TyZero Try.prog 34 [.slice none 0 0] := ⟨by kernel_rfl⟩
instance : TyRow Try.prog 35 6 := ⟨by kernel_rfl, by kernel_rfl⟩
instance : TyZero Try.prog 35 [.slice none 0 0, .int .i64 0, .int .i64 0, .int .i64 0, .slice none 0 0, .slice none 0 0] := ⟨by kernel_rfl⟩
instance : TyRow Try.prog 36 6 := ⟨by kernel_rfl, by kernel_rfl⟩
instance : TyZero Try.prog 36 [.slice none 0 0, .int .i64 0, .int .i64 0, .int .i64 0, .slice none 0 0, .slice none 0 0] := ⟨by kernel_rfl⟩
instance : TyRow Try.prog 39 1 := ⟨by kernel_rfl, by kernel_rfl⟩
instance : TyZero Try.prog 39 [.slice none 0 0] := ⟨by kernel_rfl⟩
instance : TyRow Try.prog 40 6 := ⟨by kernel_rfl, by kernel_rfl⟩
instance : TyZero Try.prog 40 [.slice none 0 0, .int .i64 0, .int .i64 0, .int .i64 0, .slice none 0 0, .slice none 0 0] := ⟨by kernel_rfl⟩
instance : TyRow Try.prog 41 6 := ⟨by kernel_rfl, by kernel_rfl⟩
instance : TyZero Try.prog 41 [.slice none 0 0, .int .i64 0, .int .i64 0, .int .i64 0, .slice none 0 0, .slice none 0 0] := ⟨by kernel_rfl⟩
instance : TyRow Try.prog 56 3 := ⟨by kernel_rfl, by kernel_rfl⟩
instance : TyZero Try.prog 56 [.int .i64 0, .int .i64 0, .int .i64 0] := ⟨by kernel_rfl⟩
instance : TyRow Try.prog 57 3 := ⟨by kernel_rfl, by kernel_rfl⟩
instance : TyZero Try.prog 57 [.int .i64 0, .int .i64 0, .int .i64 0] := ⟨by kernel_rfl⟩
instance : TyOne Try.prog 80 := ⟨by kernel_rfl, by kernel_rfl, by kernel_rfl⟩
instance : TyZero Try.prog 80 [.int .u64 0] := ⟨by kernel_rfl⟩
instance : TyMake Try.prog 81 5 [.int .u8 0] 1 := ⟨by kernel_rfl, by kernel_rfl⟩
instance : TyOne Try.prog 81 := ⟨by kernel_rfl, by kernel_rfl, by kernel_rfl⟩
instance : TyZero Try.prog 81 [.slice none 0 0] := ⟨by kernel_rfl⟩
instance : TyMake Try.prog 82 4 [.bool false] 1 := ⟨by kernel_rfl, by kernel_rfl⟩
instance : TyOne Try.prog 82 := ⟨by kernel_rfl, by kernel_rfl, by kernel_rfl⟩
instance : TyZero Try.prog 82 [.slice none 0 0] := ⟨by kernel_rfl⟩
instance : TyRow Try.prog 83 5 := ⟨by kernel_rfl, by kernel_rfl⟩
instance : TyZero Try.prog 83 [.bool false, .bool false, .bool false, .bool false, .bool false] := ⟨by kernel_rfl⟩
instance : TyOne Try.prog 91 := ⟨by kernel_rfl, by kernel_rfl, by kernel_rfl⟩
instance : TyZero Try.prog 91 [.int .u32 0] := ⟨by kernel_rfl⟩
instance : TyOne Try.prog 100 := ⟨by kernel_rfl, by kernel_rfl, by kernel_rfl⟩
instance : TyZero Try.prog 100 [.pointer none] := ⟨by kernel_rfl⟩

end Go.Proofs.Ytjkpoffhnccanaa
