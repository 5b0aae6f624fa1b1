/-
  Of each type of the translation: whether its value is a row of cells, of how many cells, its zero value, its fields; of each function that it has a body. Made by a program of this claim's author (facts.py); no statement of the program is proved here.
  Conditions: none.
-/
import Derived.Test.YtmaiojglkojecaaChecked
import Derived.KernelRfl
import Derived.Test.YtmaiojglkojecaaDDEncRowk11
namespace Go.Proofs.Ytmaiojglkojecaa
section
open Go.Proofs

instance : TyInt Try.prog 2 .i64 := ⟨by kernel_rfl⟩
instance : TyOne Try.prog 2 := ⟨by kernel_rfl,by kernel_rfl,by kernel_rfl⟩
instance : TyZero Try.prog 2 [.int .i64 0] := ⟨by kernel_rfl⟩
instance : TyInt Try.prog 3 .i64 := ⟨by kernel_rfl⟩
instance : TyOne Try.prog 3 := ⟨by kernel_rfl,by kernel_rfl,by kernel_rfl⟩
instance : TyZero Try.prog 3 [.int .i64 0] := ⟨by kernel_rfl⟩
instance : TyBool Try.prog 4 := ⟨by kernel_rfl⟩
instance : TyOne Try.prog 4 := ⟨by kernel_rfl,by kernel_rfl,by kernel_rfl⟩
instance : TyZero Try.prog 4 [.bool false] := ⟨by kernel_rfl⟩
instance : TyInt Try.prog 5 .u8 := ⟨by kernel_rfl⟩
instance : TyOne Try.prog 5 := ⟨by kernel_rfl,by kernel_rfl,by kernel_rfl⟩
instance : TyZero Try.prog 5 [.int .u8 0] := ⟨by kernel_rfl⟩
instance : TyStr Try.prog 9 := ⟨by kernel_rfl⟩
instance : TyOne Try.prog 9 := ⟨by kernel_rfl,by kernel_rfl,by kernel_rfl⟩
instance : TyZero Try.prog 9 [.string ⟨#[]⟩] := ⟨by kernel_rfl⟩
instance : TyInt Try.prog 12 .u64 := ⟨by kernel_rfl⟩
instance : TyOne Try.prog 12 := ⟨by kernel_rfl,by kernel_rfl,by kernel_rfl⟩
instance : TyZero Try.prog 12 [.int .u64 0] := ⟨by kernel_rfl⟩
instance : TyInt Try.prog 21 .i32 := ⟨by kernel_rfl⟩
instance : TyOne Try.prog 21 := ⟨by kernel_rfl,by kernel_rfl,by kernel_rfl⟩
instance : TyZero Try.prog 21 [.int .i32 0] := ⟨by kernel_rfl⟩
instance : TyMake Try.prog 22 9 [.string ⟨#[]⟩] 16 := ⟨by kernel_rfl,by kernel_rfl⟩
instance : TyOne Try.prog 22 := ⟨by kernel_rfl,by kernel_rfl,by kernel_rfl⟩
instance : TyZero Try.prog 22 [.slice none 0 0] := ⟨by kernel_rfl⟩
instance : TyRow Try.prog 23 1 := ⟨by kernel_rfl,by kernel_rfl⟩
instance : TyZero Try.prog 23 [.slice none 0 0] := ⟨by kernel_rfl⟩
instance : TyPl Try.prog 23 [(0,1)] := ⟨by kernel_rfl⟩
instance : TyRow Try.prog 24 1 := ⟨by kernel_rfl,by kernel_rfl⟩
instance : TyZero Try.prog 24 [.slice none 0 0] := ⟨by kernel_rfl⟩
instance : TyPl Try.prog 24 [(0,1)] := ⟨by kernel_rfl⟩
instance : TyMake Try.prog 25 43 [.slice none 0 0] 24 := ⟨by kernel_rfl,by kernel_rfl⟩
instance : TyOne Try.prog 25 := ⟨by kernel_rfl,by kernel_rfl,by kernel_rfl⟩
instance : TyZero Try.prog 25 [.slice none 0 0] := ⟨by kernel_rfl⟩
instance : TyRow Try.prog 26 6 := ⟨by kernel_rfl,by kernel_rfl⟩
instance : TyZero Try.prog 26 [.slice none 0 0,.int .i64 0,.int .i64 0,.int .i64 0,.slice none 0 0,.slice none 0 0] := ⟨by kernel_rfl⟩
instance : TyPl Try.prog 26 [(0,1),(1,1),(2,1),(3,1),(4,1),(5,1)] := ⟨by kernel_rfl⟩
instance : TyRow Try.prog 27 6 := ⟨by kernel_rfl,by kernel_rfl⟩
instance : TyZero Try.prog 27 [.slice none 0 0,.int .i64 0,.int .i64 0,.int .i64 0,.slice none 0 0,.slice none 0 0] := ⟨by kernel_rfl⟩
instance : TyPl Try.prog 27 [(0,1),(1,1),(2,1),(3,1),(4,1),(5,1)] := ⟨by kernel_rfl⟩
instance : TyRow Try.prog 30 1 := ⟨by kernel_rfl,by kernel_rfl⟩
instance : TyZero Try.prog 30 [.slice none 0 0] := ⟨by kernel_rfl⟩
instance : TyPl Try.prog 30 [(0,1)] := ⟨by kernel_rfl⟩
instance : TyRow Try.prog 31 6 := ⟨by kernel_rfl,by kernel_rfl⟩
instance : TyZero Try.prog 31 [.slice none 0 0,.int .i64 0,.int .i64 0,.int .i64 0,.slice none 0 0,.slice none 0 0] := ⟨by kernel_rfl⟩
instance : TyPl Try.prog 31 [(0,1),(1,1),(2,1),(3,1),(4,1),(5,1)] := ⟨by kernel_rfl⟩
instance : TyRow Try.prog 32 6 := ⟨by kernel_rfl,by kernel_rfl⟩
instance : TyZero Try.prog 32 [.slice none 0 0,.int .i64 0,.int .i64 0,.int .i64 0,.slice none 0 0,.slice none 0 0] := ⟨by kernel_rfl⟩
instance : TyPl Try.prog 32 [(0,1),(1,1),(2,1),(3,1),(4,1),(5,1)] := ⟨by kernel_rfl⟩
instance : TyMake Try.prog 43 3 [.int .i64 0] 8 := ⟨by kernel_rfl,by kernel_rfl⟩
instance : TyOne Try.prog 43 := ⟨by kernel_rfl,by kernel_rfl,by kernel_rfl⟩
instance : TyZero Try.prog 43 [.slice none 0 0] := ⟨by kernel_rfl⟩
instance : TyBytes Try.prog 49 := ⟨by kernel_rfl⟩
instance : TyMake Try.prog 49 5 [.int .u8 0] 1 := ⟨by kernel_rfl,by kernel_rfl⟩
instance : TyOne Try.prog 49 := ⟨by kernel_rfl,by kernel_rfl,by kernel_rfl⟩
instance : TyZero Try.prog 49 [.slice none 0 0] := ⟨by kernel_rfl⟩
instance : TyRow Try.prog 50 2 := ⟨by kernel_rfl,by kernel_rfl⟩
instance : TyZero Try.prog 50 [.pointer none,.slice none 0 0] := ⟨by kernel_rfl⟩
instance : TyPl Try.prog 50 [(0,1),(1,1)] := ⟨by kernel_rfl⟩
instance : TyRow Try.prog 51 2 := ⟨by kernel_rfl,by kernel_rfl⟩
instance : TyZero Try.prog 51 [.pointer none,.slice none 0 0] := ⟨by kernel_rfl⟩
instance : TyPl Try.prog 51 [(0,1),(1,1)] := ⟨by kernel_rfl⟩
instance : TyInt Try.prog 69 .u64 := ⟨by kernel_rfl⟩
instance : TyOne Try.prog 69 := ⟨by kernel_rfl,by kernel_rfl,by kernel_rfl⟩
instance : TyZero Try.prog 69 [.int .u64 0] := ⟨by kernel_rfl⟩
instance : TyMake Try.prog 74 4 [.bool false] 1 := ⟨by kernel_rfl,by kernel_rfl⟩
instance : TyOne Try.prog 74 := ⟨by kernel_rfl,by kernel_rfl,by kernel_rfl⟩
instance : TyZero Try.prog 74 [.slice none 0 0] := ⟨by kernel_rfl⟩
instance : TyRow Try.prog 75 5 := ⟨by kernel_rfl,by kernel_rfl⟩
instance : TyZero Try.prog 75 [.bool false,.bool false,.bool false,.bool false,.bool false] := ⟨by kernel_rfl⟩
instance : TyArr Try.prog 75 5 1 := ⟨by kernel_rfl⟩
instance : TyOne Try.prog 76 := ⟨by kernel_rfl,by kernel_rfl,by kernel_rfl⟩
instance : TyZero Try.prog 76 [.pointer none] := ⟨by kernel_rfl⟩
instance : TyInt Try.prog 86 .u32 := ⟨by kernel_rfl⟩
instance : TyOne Try.prog 86 := ⟨by kernel_rfl,by kernel_rfl,by kernel_rfl⟩
instance : TyZero Try.prog 86 [.int .u32 0] := ⟨by kernel_rfl⟩
instance : FunOk Try.prog 3 := ⟨(congrArg _ Try.func3).trans (by kernel_rfl)⟩
instance : FunOk Try.prog 4 := ⟨(congrArg _ Try.func4).trans (by kernel_rfl)⟩
instance : FunOk Try.prog 5 := ⟨(congrArg _ Try.func5).trans (by kernel_rfl)⟩
instance : FunOk Try.prog 6 := ⟨(congrArg _ Try.func6).trans (by kernel_rfl)⟩
instance : FunOk Try.prog 7 := ⟨(congrArg _ Try.func7).trans (by kernel_rfl)⟩
instance : FunOk Try.prog 8 := ⟨(congrArg _ Try.func8).trans (by kernel_rfl)⟩
instance : FunOk Try.prog 9 := ⟨(congrArg _ Try.func9).trans (by kernel_rfl)⟩
instance : FunOk Try.prog 10 := ⟨(congrArg _ Try.func10).trans (by kernel_rfl)⟩
instance : FunOk Try.prog 11 := ⟨(congrArg _ Try.func11).trans (by kernel_rfl)⟩
instance : FunOk Try.prog 12 := ⟨(congrArg _ Try.func12).trans (by kernel_rfl)⟩
instance : FunOk Try.prog 13 := ⟨(congrArg _ Try.func13).trans (by kernel_rfl)⟩
instance : FunOk Try.prog 14 := ⟨(congrArg _ Try.func14).trans (by kernel_rfl)⟩
instance : FunOk Try.prog 15 := ⟨(congrArg _ Try.func15).trans (by kernel_rfl)⟩
instance : FunOk Try.prog 16 := ⟨(congrArg _ Try.func16).trans (by kernel_rfl)⟩
instance : FunOk Try.prog 17 := ⟨(congrArg _ Try.func17).trans (by kernel_rfl)⟩
instance : FunOk Try.prog 18 := ⟨(congrArg _ Try.func18).trans (by kernel_rfl)⟩
instance : FunOk Try.prog 19 := ⟨(congrArg _ Try.func19).trans (by kernel_rfl)⟩
instance : FunOk Try.prog 20 := ⟨(congrArg _ Try.func20).trans (by kernel_rfl)⟩
instance : FunOk Try.prog 21 := ⟨(congrArg _ Try.func21).trans (by kernel_rfl)⟩
instance : FunOk Try.prog 22 := ⟨(congrArg _ Try.func22).trans (by kernel_rfl)⟩
instance : FunOk Try.prog 24 := ⟨(congrArg _ Try.func24).trans (by kernel_rfl)⟩
instance : FunOk Try.prog 25 := ⟨(congrArg _ Try.func25).trans (by kernel_rfl)⟩
instance : FunOk Try.prog 26 := ⟨(congrArg _ Try.func26).trans (by kernel_rfl)⟩
instance : FunOk Try.prog 27 := ⟨(congrArg _ Try.func27).trans (by kernel_rfl)⟩
instance : FunOk Try.prog 28 := ⟨(congrArg _ Try.func28).trans (by kernel_rfl)⟩
instance : FunOk Try.prog 30 := ⟨(congrArg _ Try.func30).trans (by kernel_rfl)⟩
instance : FunOk Try.prog 31 := ⟨(congrArg _ Try.func31).trans (by kernel_rfl)⟩
instance : FunOk Try.prog 32 := ⟨(congrArg _ Try.func32).trans (by kernel_rfl)⟩
instance : FunOk Try.prog 33 := ⟨(congrArg _ Try.func33).trans (by kernel_rfl)⟩
instance : FunOk Try.prog 34 := ⟨(congrArg _ Try.func34).trans (by kernel_rfl)⟩
instance : FunOk Try.prog 35 := ⟨(congrArg _ Try.func35).trans (by kernel_rfl)⟩
instance : FunOk Try.prog 36 := ⟨(congrArg _ Try.func36).trans (by kernel_rfl)⟩
instance : FunOk Try.prog 37 := ⟨(congrArg _ Try.func37).trans (by kernel_rfl)⟩
instance : FunOk Try.prog 38 := ⟨(congrArg _ Try.func38).trans (by kernel_rfl)⟩
instance : FunOk Try.prog 39 := ⟨(congrArg _ Try.func39).trans (by kernel_rfl)⟩
instance : FunOk Try.prog 40 := ⟨(congrArg _ Try.func40).trans (by kernel_rfl)⟩
instance : FunOk Try.prog 41 := ⟨(congrArg _ Try.func41).trans (by kernel_rfl)⟩
instance : FunOk Try.prog 42 := ⟨(congrArg _ Try.func42).trans (by kernel_rfl)⟩
instance : FunOk Try.prog 43 := ⟨(congrArg _ Try.func43).trans (by kernel_rfl)⟩
instance : FunOk Try.prog 44 := ⟨(congrArg _ Try.func44).trans (by kernel_rfl)⟩
instance : FunOk Try.prog 46 := ⟨(congrArg _ Try.func46).trans (by kernel_rfl)⟩
instance : FunOk Try.prog 47 := ⟨(congrArg _ Try.func47).trans (by kernel_rfl)⟩
instance : FunOk Try.prog 48 := ⟨(congrArg _ Try.func48).trans (by kernel_rfl)⟩
instance : FunOk Try.prog 49 := ⟨(congrArg _ Try.func49).trans (by kernel_rfl)⟩
instance : FunOk Try.prog 50 := ⟨(congrArg _ Try.func50).trans (by kernel_rfl)⟩
instance : FunOk Try.prog 51 := ⟨(congrArg _ Try.func51).trans (by kernel_rfl)⟩
instance : FunOk Try.prog 52 := ⟨(congrArg _ Try.func52).trans (by kernel_rfl)⟩
end
end Go.Proofs.Ytmaiojglkojecaa
