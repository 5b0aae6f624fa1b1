/-
  The kinds of operations, told apart at once. No statement of the program is proved here.
  Conditions: none.
-/
import Derived.Test.YtkfnaniegldfaaaDStr
set_option linter.unusedSimpArgs false
set_option linter.unusedVariables false
namespace Go.Proofs.Ytkfnaniegldfaaa
open Go.RowKit

section
variable {P : Program} {E : Env} {ops : Array Oper} {rest : List Oper} {Q : Exit → St → Prop} {d : Option Tmp} {st : St} {t' : TypeId} {p' : String} {af : Array Edge} {g : Nat × Bool} {l : List Oper} {A S M : List (List Nat)} {N : Nat} {ts : List (Nat × V)} {obs : List Ob} {aS mS : List (List Nat)} {done : List Hd} {k c : Nat}
variable {x y z : Operand} {t u : TypeId} {parts : Array (Nat × Operand)} {i n : Nat} {a b e : Option Operand} {bo : BinOp} {uo : UnOp} {cl : Call} {op : Op} {v : V} {m : Nat} {ob1 : List Ob}
theorem K_move (h : AL P E ops Q (⟨d, (.move x), t', p', af, none⟩ :: rest) st) : AL P E ops Q (⟨d, (.move x), t', p', af, none⟩ :: rest) st := h
theorem KD_move (h : DR P E l A S M Q N ts obs aS mS done k c (⟨d, (.move x), t', p', af, none⟩ :: rest)) : DR P E l A S M Q N ts obs aS mS done k c (⟨d, (.move x), t', p', af, none⟩ :: rest) := h
theorem KQ_move (h : Qt P ops ⟨d, (.move x), t', p', af, none⟩ st v ob1 m) : Qt P ops ⟨d, (.move x), t', p', af, none⟩ st v ob1 m := h
theorem K_assign (h : AL P E ops Q (⟨d, (.assign x), t', p', af, none⟩ :: rest) st) : AL P E ops Q (⟨d, (.assign x), t', p', af, none⟩ :: rest) st := h
theorem KD_assign (h : DR P E l A S M Q N ts obs aS mS done k c (⟨d, (.assign x), t', p', af, none⟩ :: rest)) : DR P E l A S M Q N ts obs aS mS done k c (⟨d, (.assign x), t', p', af, none⟩ :: rest) := h
theorem KQ_assign (h : Qt P ops ⟨d, (.assign x), t', p', af, none⟩ st v ob1 m) : Qt P ops ⟨d, (.assign x), t', p', af, none⟩ st v ob1 m := h
theorem K_pick (h : AL P E ops Q (⟨d, (.pick x y z), t', p', af, none⟩ :: rest) st) : AL P E ops Q (⟨d, (.pick x y z), t', p', af, none⟩ :: rest) st := h
theorem KD_pick (h : DR P E l A S M Q N ts obs aS mS done k c (⟨d, (.pick x y z), t', p', af, none⟩ :: rest)) : DR P E l A S M Q N ts obs aS mS done k c (⟨d, (.pick x y z), t', p', af, none⟩ :: rest) := h
theorem KQ_pick (h : Qt P ops ⟨d, (.pick x y z), t', p', af, none⟩ st v ob1 m) : Qt P ops ⟨d, (.pick x y z), t', p', af, none⟩ st v ob1 m := h
theorem K_alloc (h : AL P E ops Q (⟨d, (.alloc t), t', p', af, none⟩ :: rest) st) : AL P E ops Q (⟨d, (.alloc t), t', p', af, none⟩ :: rest) st := h
theorem KD_alloc (h : DR P E l A S M Q N ts obs aS mS done k c (⟨d, (.alloc t), t', p', af, none⟩ :: rest)) : DR P E l A S M Q N ts obs aS mS done k c (⟨d, (.alloc t), t', p', af, none⟩ :: rest) := h
theorem KQ_alloc (h : Qt P ops ⟨d, (.alloc t), t', p', af, none⟩ st v ob1 m) : Qt P ops ⟨d, (.alloc t), t', p', af, none⟩ st v ob1 m := h
theorem K_box (h : AL P E ops Q (⟨d, (.box t x), t', p', af, none⟩ :: rest) st) : AL P E ops Q (⟨d, (.box t x), t', p', af, none⟩ :: rest) st := h
theorem KD_box (h : DR P E l A S M Q N ts obs aS mS done k c (⟨d, (.box t x), t', p', af, none⟩ :: rest)) : DR P E l A S M Q N ts obs aS mS done k c (⟨d, (.box t x), t', p', af, none⟩ :: rest) := h
theorem KQ_box (h : Qt P ops ⟨d, (.box t x), t', p', af, none⟩ st v ob1 m) : Qt P ops ⟨d, (.box t x), t', p', af, none⟩ st v ob1 m := h
theorem K_build (h : AL P E ops Q (⟨d, (.build t parts), t', p', af, none⟩ :: rest) st) : AL P E ops Q (⟨d, (.build t parts), t', p', af, none⟩ :: rest) st := h
theorem KD_build (h : DR P E l A S M Q N ts obs aS mS done k c (⟨d, (.build t parts), t', p', af, none⟩ :: rest)) : DR P E l A S M Q N ts obs aS mS done k c (⟨d, (.build t parts), t', p', af, none⟩ :: rest) := h
theorem KQ_build (h : Qt P ops ⟨d, (.build t parts), t', p', af, none⟩ st v ob1 m) : Qt P ops ⟨d, (.build t parts), t', p', af, none⟩ st v ob1 m := h
theorem K_bslice (h : AL P E ops Q (⟨d, (.buildSlice t n parts), t', p', af, none⟩ :: rest) st) : AL P E ops Q (⟨d, (.buildSlice t n parts), t', p', af, none⟩ :: rest) st := h
theorem KD_bslice (h : DR P E l A S M Q N ts obs aS mS done k c (⟨d, (.buildSlice t n parts), t', p', af, none⟩ :: rest)) : DR P E l A S M Q N ts obs aS mS done k c (⟨d, (.buildSlice t n parts), t', p', af, none⟩ :: rest) := h
theorem KQ_bslice (h : Qt P ops ⟨d, (.buildSlice t n parts), t', p', af, none⟩ st v ob1 m) : Qt P ops ⟨d, (.buildSlice t n parts), t', p', af, none⟩ st v ob1 m := h
theorem K_load (h : AL P E ops Q (⟨d, (.load t x), t', p', af, none⟩ :: rest) st) : AL P E ops Q (⟨d, (.load t x), t', p', af, none⟩ :: rest) st := h
theorem KD_load (h : DR P E l A S M Q N ts obs aS mS done k c (⟨d, (.load t x), t', p', af, none⟩ :: rest)) : DR P E l A S M Q N ts obs aS mS done k c (⟨d, (.load t x), t', p', af, none⟩ :: rest) := h
theorem KQ_load (h : Qt P ops ⟨d, (.load t x), t', p', af, none⟩ st v ob1 m) : Qt P ops ⟨d, (.load t x), t', p', af, none⟩ st v ob1 m := h
theorem K_store (h : AL P E ops Q (⟨d, (.store t x y), t', p', af, none⟩ :: rest) st) : AL P E ops Q (⟨d, (.store t x y), t', p', af, none⟩ :: rest) st := h
theorem KD_store (h : DR P E l A S M Q N ts obs aS mS done k c (⟨d, (.store t x y), t', p', af, none⟩ :: rest)) : DR P E l A S M Q N ts obs aS mS done k c (⟨d, (.store t x y), t', p', af, none⟩ :: rest) := h
theorem KQ_store (h : Qt P ops ⟨d, (.store t x y), t', p', af, none⟩ st v ob1 m) : Qt P ops ⟨d, (.store t x y), t', p', af, none⟩ st v ob1 m := h
theorem K_nilc (h : AL P E ops Q (⟨d, (.nilCheck x), t', p', af, none⟩ :: rest) st) : AL P E ops Q (⟨d, (.nilCheck x), t', p', af, none⟩ :: rest) st := h
theorem KD_nilc (h : DR P E l A S M Q N ts obs aS mS done k c (⟨d, (.nilCheck x), t', p', af, none⟩ :: rest)) : DR P E l A S M Q N ts obs aS mS done k c (⟨d, (.nilCheck x), t', p', af, none⟩ :: rest) := h
theorem KQ_nilc (h : Qt P ops ⟨d, (.nilCheck x), t', p', af, none⟩ st v ob1 m) : Qt P ops ⟨d, (.nilCheck x), t', p', af, none⟩ st v ob1 m := h
theorem K_bin (h : AL P E ops Q (⟨d, (.binOp bo t x y u), t', p', af, none⟩ :: rest) st) : AL P E ops Q (⟨d, (.binOp bo t x y u), t', p', af, none⟩ :: rest) st := h
theorem KD_bin (h : DR P E l A S M Q N ts obs aS mS done k c (⟨d, (.binOp bo t x y u), t', p', af, none⟩ :: rest)) : DR P E l A S M Q N ts obs aS mS done k c (⟨d, (.binOp bo t x y u), t', p', af, none⟩ :: rest) := h
theorem KQ_bin (h : Qt P ops ⟨d, (.binOp bo t x y u), t', p', af, none⟩ st v ob1 m) : Qt P ops ⟨d, (.binOp bo t x y u), t', p', af, none⟩ st v ob1 m := h
theorem K_un (h : AL P E ops Q (⟨d, (.unOp uo t x), t', p', af, none⟩ :: rest) st) : AL P E ops Q (⟨d, (.unOp uo t x), t', p', af, none⟩ :: rest) st := h
theorem KD_un (h : DR P E l A S M Q N ts obs aS mS done k c (⟨d, (.unOp uo t x), t', p', af, none⟩ :: rest)) : DR P E l A S M Q N ts obs aS mS done k c (⟨d, (.unOp uo t x), t', p', af, none⟩ :: rest) := h
theorem KQ_un (h : Qt P ops ⟨d, (.unOp uo t x), t', p', af, none⟩ st v ob1 m) : Qt P ops ⟨d, (.unOp uo t x), t', p', af, none⟩ st v ob1 m := h
theorem K_conv (h : AL P E ops Q (⟨d, (.convert t u x), t', p', af, none⟩ :: rest) st) : AL P E ops Q (⟨d, (.convert t u x), t', p', af, none⟩ :: rest) st := h
theorem KD_conv (h : DR P E l A S M Q N ts obs aS mS done k c (⟨d, (.convert t u x), t', p', af, none⟩ :: rest)) : DR P E l A S M Q N ts obs aS mS done k c (⟨d, (.convert t u x), t', p', af, none⟩ :: rest) := h
theorem KQ_conv (h : Qt P ops ⟨d, (.convert t u x), t', p', af, none⟩ st v ob1 m) : Qt P ops ⟨d, (.convert t u x), t', p', af, none⟩ st v ob1 m := h
theorem K_make (h : AL P E ops Q (⟨d, (.makeSlice t x y), t', p', af, none⟩ :: rest) st) : AL P E ops Q (⟨d, (.makeSlice t x y), t', p', af, none⟩ :: rest) st := h
theorem KD_make (h : DR P E l A S M Q N ts obs aS mS done k c (⟨d, (.makeSlice t x y), t', p', af, none⟩ :: rest)) : DR P E l A S M Q N ts obs aS mS done k c (⟨d, (.makeSlice t x y), t', p', af, none⟩ :: rest) := h
theorem KQ_make (h : Qt P ops ⟨d, (.makeSlice t x y), t', p', af, none⟩ st v ob1 m) : Qt P ops ⟨d, (.makeSlice t x y), t', p', af, none⟩ st v ob1 m := h
theorem K_slice (h : AL P E ops Q (⟨d, (.slice t x a b e), t', p', af, none⟩ :: rest) st) : AL P E ops Q (⟨d, (.slice t x a b e), t', p', af, none⟩ :: rest) st := h
theorem KD_slice (h : DR P E l A S M Q N ts obs aS mS done k c (⟨d, (.slice t x a b e), t', p', af, none⟩ :: rest)) : DR P E l A S M Q N ts obs aS mS done k c (⟨d, (.slice t x a b e), t', p', af, none⟩ :: rest) := h
theorem KQ_slice (h : Qt P ops ⟨d, (.slice t x a b e), t', p', af, none⟩ st v ob1 m) : Qt P ops ⟨d, (.slice t x a b e), t', p', af, none⟩ st v ob1 m := h
theorem K_fld (h : AL P E ops Q (⟨d, (.fieldAddr t x i), t', p', af, none⟩ :: rest) st) : AL P E ops Q (⟨d, (.fieldAddr t x i), t', p', af, none⟩ :: rest) st := h
theorem KD_fld (h : DR P E l A S M Q N ts obs aS mS done k c (⟨d, (.fieldAddr t x i), t', p', af, none⟩ :: rest)) : DR P E l A S M Q N ts obs aS mS done k c (⟨d, (.fieldAddr t x i), t', p', af, none⟩ :: rest) := h
theorem KQ_fld (h : Qt P ops ⟨d, (.fieldAddr t x i), t', p', af, none⟩ st v ob1 m) : Qt P ops ⟨d, (.fieldAddr t x i), t', p', af, none⟩ st v ob1 m := h
theorem K_idxa (h : AL P E ops Q (⟨d, (.indexAddr t x y), t', p', af, none⟩ :: rest) st) : AL P E ops Q (⟨d, (.indexAddr t x y), t', p', af, none⟩ :: rest) st := h
theorem KD_idxa (h : DR P E l A S M Q N ts obs aS mS done k c (⟨d, (.indexAddr t x y), t', p', af, none⟩ :: rest)) : DR P E l A S M Q N ts obs aS mS done k c (⟨d, (.indexAddr t x y), t', p', af, none⟩ :: rest) := h
theorem KQ_idxa (h : Qt P ops ⟨d, (.indexAddr t x y), t', p', af, none⟩ st v ob1 m) : Qt P ops ⟨d, (.indexAddr t x y), t', p', af, none⟩ st v ob1 m := h
theorem K_idx (h : AL P E ops Q (⟨d, (.index t x y), t', p', af, none⟩ :: rest) st) : AL P E ops Q (⟨d, (.index t x y), t', p', af, none⟩ :: rest) st := h
theorem KD_idx (h : DR P E l A S M Q N ts obs aS mS done k c (⟨d, (.index t x y), t', p', af, none⟩ :: rest)) : DR P E l A S M Q N ts obs aS mS done k c (⟨d, (.index t x y), t', p', af, none⟩ :: rest) := h
theorem KQ_idx (h : Qt P ops ⟨d, (.index t x y), t', p', af, none⟩ st v ob1 m) : Qt P ops ⟨d, (.index t x y), t', p', af, none⟩ st v ob1 m := h
theorem K_ext (h : AL P E ops Q (⟨d, (.extract x i), t', p', af, none⟩ :: rest) st) : AL P E ops Q (⟨d, (.extract x i), t', p', af, none⟩ :: rest) st := h
theorem KD_ext (h : DR P E l A S M Q N ts obs aS mS done k c (⟨d, (.extract x i), t', p', af, none⟩ :: rest)) : DR P E l A S M Q N ts obs aS mS done k c (⟨d, (.extract x i), t', p', af, none⟩ :: rest) := h
theorem KQ_ext (h : Qt P ops ⟨d, (.extract x i), t', p', af, none⟩ st v ob1 m) : Qt P ops ⟨d, (.extract x i), t', p', af, none⟩ st v ob1 m := h
theorem K_call (h : AL P E ops Q (⟨d, (.call cl), t', p', af, none⟩ :: rest) st) : AL P E ops Q (⟨d, (.call cl), t', p', af, none⟩ :: rest) st := h
theorem KD_call (h : DR P E l A S M Q N ts obs aS mS done k c (⟨d, (.call cl), t', p', af, none⟩ :: rest)) : DR P E l A S M Q N ts obs aS mS done k c (⟨d, (.call cl), t', p', af, none⟩ :: rest) := h
theorem KQ_call (h : Qt P ops ⟨d, (.call cl), t', p', af, none⟩ st v ob1 m) : Qt P ops ⟨d, (.call cl), t', p', af, none⟩ st v ob1 m := h
theorem K_g (h : AL P E ops Q (⟨d, op, t', p', af, some g⟩ :: rest) st) : AL P E ops Q (⟨d, op, t', p', af, some g⟩ :: rest) st := h
theorem KD_g (h : DR P E l A S M Q N ts obs aS mS done k c (⟨d, op, t', p', af, some g⟩ :: rest)) : DR P E l A S M Q N ts obs aS mS done k c (⟨d, op, t', p', af, some g⟩ :: rest) := h
theorem K_badd (h : AL P E ops Q (⟨d, .binOp .add t x y u, t', p', af, none⟩ :: rest) st) : AL P E ops Q (⟨d, .binOp .add t x y u, t', p', af, none⟩ :: rest) st := h
theorem KD_badd (h : DR P E l A S M Q N ts obs aS mS done k c (⟨d, .binOp .add t x y u, t', p', af, none⟩ :: rest)) : DR P E l A S M Q N ts obs aS mS done k c (⟨d, .binOp .add t x y u, t', p', af, none⟩ :: rest) := h
theorem KQ_badd (h : Qt P ops ⟨d, .binOp .add t x y u, t', p', af, none⟩ st v ob1 m) : Qt P ops ⟨d, .binOp .add t x y u, t', p', af, none⟩ st v ob1 m := h
theorem K_bsub (h : AL P E ops Q (⟨d, .binOp .sub t x y u, t', p', af, none⟩ :: rest) st) : AL P E ops Q (⟨d, .binOp .sub t x y u, t', p', af, none⟩ :: rest) st := h
theorem KD_bsub (h : DR P E l A S M Q N ts obs aS mS done k c (⟨d, .binOp .sub t x y u, t', p', af, none⟩ :: rest)) : DR P E l A S M Q N ts obs aS mS done k c (⟨d, .binOp .sub t x y u, t', p', af, none⟩ :: rest) := h
theorem KQ_bsub (h : Qt P ops ⟨d, .binOp .sub t x y u, t', p', af, none⟩ st v ob1 m) : Qt P ops ⟨d, .binOp .sub t x y u, t', p', af, none⟩ st v ob1 m := h
theorem K_bmul (h : AL P E ops Q (⟨d, .binOp .mul t x y u, t', p', af, none⟩ :: rest) st) : AL P E ops Q (⟨d, .binOp .mul t x y u, t', p', af, none⟩ :: rest) st := h
theorem KD_bmul (h : DR P E l A S M Q N ts obs aS mS done k c (⟨d, .binOp .mul t x y u, t', p', af, none⟩ :: rest)) : DR P E l A S M Q N ts obs aS mS done k c (⟨d, .binOp .mul t x y u, t', p', af, none⟩ :: rest) := h
theorem KQ_bmul (h : Qt P ops ⟨d, .binOp .mul t x y u, t', p', af, none⟩ st v ob1 m) : Qt P ops ⟨d, .binOp .mul t x y u, t', p', af, none⟩ st v ob1 m := h
theorem K_bquo (h : AL P E ops Q (⟨d, .binOp .quo t x y u, t', p', af, none⟩ :: rest) st) : AL P E ops Q (⟨d, .binOp .quo t x y u, t', p', af, none⟩ :: rest) st := h
theorem KD_bquo (h : DR P E l A S M Q N ts obs aS mS done k c (⟨d, .binOp .quo t x y u, t', p', af, none⟩ :: rest)) : DR P E l A S M Q N ts obs aS mS done k c (⟨d, .binOp .quo t x y u, t', p', af, none⟩ :: rest) := h
theorem KQ_bquo (h : Qt P ops ⟨d, .binOp .quo t x y u, t', p', af, none⟩ st v ob1 m) : Qt P ops ⟨d, .binOp .quo t x y u, t', p', af, none⟩ st v ob1 m := h
theorem K_brem (h : AL P E ops Q (⟨d, .binOp .rem t x y u, t', p', af, none⟩ :: rest) st) : AL P E ops Q (⟨d, .binOp .rem t x y u, t', p', af, none⟩ :: rest) st := h
theorem KD_brem (h : DR P E l A S M Q N ts obs aS mS done k c (⟨d, .binOp .rem t x y u, t', p', af, none⟩ :: rest)) : DR P E l A S M Q N ts obs aS mS done k c (⟨d, .binOp .rem t x y u, t', p', af, none⟩ :: rest) := h
theorem KQ_brem (h : Qt P ops ⟨d, .binOp .rem t x y u, t', p', af, none⟩ st v ob1 m) : Qt P ops ⟨d, .binOp .rem t x y u, t', p', af, none⟩ st v ob1 m := h
theorem K_band (h : AL P E ops Q (⟨d, .binOp .and t x y u, t', p', af, none⟩ :: rest) st) : AL P E ops Q (⟨d, .binOp .and t x y u, t', p', af, none⟩ :: rest) st := h
theorem KD_band (h : DR P E l A S M Q N ts obs aS mS done k c (⟨d, .binOp .and t x y u, t', p', af, none⟩ :: rest)) : DR P E l A S M Q N ts obs aS mS done k c (⟨d, .binOp .and t x y u, t', p', af, none⟩ :: rest) := h
theorem KQ_band (h : Qt P ops ⟨d, .binOp .and t x y u, t', p', af, none⟩ st v ob1 m) : Qt P ops ⟨d, .binOp .and t x y u, t', p', af, none⟩ st v ob1 m := h
theorem K_bor (h : AL P E ops Q (⟨d, .binOp .or t x y u, t', p', af, none⟩ :: rest) st) : AL P E ops Q (⟨d, .binOp .or t x y u, t', p', af, none⟩ :: rest) st := h
theorem KD_bor (h : DR P E l A S M Q N ts obs aS mS done k c (⟨d, .binOp .or t x y u, t', p', af, none⟩ :: rest)) : DR P E l A S M Q N ts obs aS mS done k c (⟨d, .binOp .or t x y u, t', p', af, none⟩ :: rest) := h
theorem KQ_bor (h : Qt P ops ⟨d, .binOp .or t x y u, t', p', af, none⟩ st v ob1 m) : Qt P ops ⟨d, .binOp .or t x y u, t', p', af, none⟩ st v ob1 m := h
theorem K_bxor (h : AL P E ops Q (⟨d, .binOp .xor t x y u, t', p', af, none⟩ :: rest) st) : AL P E ops Q (⟨d, .binOp .xor t x y u, t', p', af, none⟩ :: rest) st := h
theorem KD_bxor (h : DR P E l A S M Q N ts obs aS mS done k c (⟨d, .binOp .xor t x y u, t', p', af, none⟩ :: rest)) : DR P E l A S M Q N ts obs aS mS done k c (⟨d, .binOp .xor t x y u, t', p', af, none⟩ :: rest) := h
theorem KQ_bxor (h : Qt P ops ⟨d, .binOp .xor t x y u, t', p', af, none⟩ st v ob1 m) : Qt P ops ⟨d, .binOp .xor t x y u, t', p', af, none⟩ st v ob1 m := h
theorem K_bandNot (h : AL P E ops Q (⟨d, .binOp .andNot t x y u, t', p', af, none⟩ :: rest) st) : AL P E ops Q (⟨d, .binOp .andNot t x y u, t', p', af, none⟩ :: rest) st := h
theorem KD_bandNot (h : DR P E l A S M Q N ts obs aS mS done k c (⟨d, .binOp .andNot t x y u, t', p', af, none⟩ :: rest)) : DR P E l A S M Q N ts obs aS mS done k c (⟨d, .binOp .andNot t x y u, t', p', af, none⟩ :: rest) := h
theorem KQ_bandNot (h : Qt P ops ⟨d, .binOp .andNot t x y u, t', p', af, none⟩ st v ob1 m) : Qt P ops ⟨d, .binOp .andNot t x y u, t', p', af, none⟩ st v ob1 m := h
theorem K_bshl (h : AL P E ops Q (⟨d, .binOp .shl t x y u, t', p', af, none⟩ :: rest) st) : AL P E ops Q (⟨d, .binOp .shl t x y u, t', p', af, none⟩ :: rest) st := h
theorem KD_bshl (h : DR P E l A S M Q N ts obs aS mS done k c (⟨d, .binOp .shl t x y u, t', p', af, none⟩ :: rest)) : DR P E l A S M Q N ts obs aS mS done k c (⟨d, .binOp .shl t x y u, t', p', af, none⟩ :: rest) := h
theorem KQ_bshl (h : Qt P ops ⟨d, .binOp .shl t x y u, t', p', af, none⟩ st v ob1 m) : Qt P ops ⟨d, .binOp .shl t x y u, t', p', af, none⟩ st v ob1 m := h
theorem K_bshr (h : AL P E ops Q (⟨d, .binOp .shr t x y u, t', p', af, none⟩ :: rest) st) : AL P E ops Q (⟨d, .binOp .shr t x y u, t', p', af, none⟩ :: rest) st := h
theorem KD_bshr (h : DR P E l A S M Q N ts obs aS mS done k c (⟨d, .binOp .shr t x y u, t', p', af, none⟩ :: rest)) : DR P E l A S M Q N ts obs aS mS done k c (⟨d, .binOp .shr t x y u, t', p', af, none⟩ :: rest) := h
theorem KQ_bshr (h : Qt P ops ⟨d, .binOp .shr t x y u, t', p', af, none⟩ st v ob1 m) : Qt P ops ⟨d, .binOp .shr t x y u, t', p', af, none⟩ st v ob1 m := h
theorem K_beql (h : AL P E ops Q (⟨d, .binOp .eql t x y u, t', p', af, none⟩ :: rest) st) : AL P E ops Q (⟨d, .binOp .eql t x y u, t', p', af, none⟩ :: rest) st := h
theorem KD_beql (h : DR P E l A S M Q N ts obs aS mS done k c (⟨d, .binOp .eql t x y u, t', p', af, none⟩ :: rest)) : DR P E l A S M Q N ts obs aS mS done k c (⟨d, .binOp .eql t x y u, t', p', af, none⟩ :: rest) := h
theorem KQ_beql (h : Qt P ops ⟨d, .binOp .eql t x y u, t', p', af, none⟩ st v ob1 m) : Qt P ops ⟨d, .binOp .eql t x y u, t', p', af, none⟩ st v ob1 m := h
theorem K_bneq (h : AL P E ops Q (⟨d, .binOp .neq t x y u, t', p', af, none⟩ :: rest) st) : AL P E ops Q (⟨d, .binOp .neq t x y u, t', p', af, none⟩ :: rest) st := h
theorem KD_bneq (h : DR P E l A S M Q N ts obs aS mS done k c (⟨d, .binOp .neq t x y u, t', p', af, none⟩ :: rest)) : DR P E l A S M Q N ts obs aS mS done k c (⟨d, .binOp .neq t x y u, t', p', af, none⟩ :: rest) := h
theorem KQ_bneq (h : Qt P ops ⟨d, .binOp .neq t x y u, t', p', af, none⟩ st v ob1 m) : Qt P ops ⟨d, .binOp .neq t x y u, t', p', af, none⟩ st v ob1 m := h
theorem K_blss (h : AL P E ops Q (⟨d, .binOp .lss t x y u, t', p', af, none⟩ :: rest) st) : AL P E ops Q (⟨d, .binOp .lss t x y u, t', p', af, none⟩ :: rest) st := h
theorem KD_blss (h : DR P E l A S M Q N ts obs aS mS done k c (⟨d, .binOp .lss t x y u, t', p', af, none⟩ :: rest)) : DR P E l A S M Q N ts obs aS mS done k c (⟨d, .binOp .lss t x y u, t', p', af, none⟩ :: rest) := h
theorem KQ_blss (h : Qt P ops ⟨d, .binOp .lss t x y u, t', p', af, none⟩ st v ob1 m) : Qt P ops ⟨d, .binOp .lss t x y u, t', p', af, none⟩ st v ob1 m := h
theorem K_bleq (h : AL P E ops Q (⟨d, .binOp .leq t x y u, t', p', af, none⟩ :: rest) st) : AL P E ops Q (⟨d, .binOp .leq t x y u, t', p', af, none⟩ :: rest) st := h
theorem KD_bleq (h : DR P E l A S M Q N ts obs aS mS done k c (⟨d, .binOp .leq t x y u, t', p', af, none⟩ :: rest)) : DR P E l A S M Q N ts obs aS mS done k c (⟨d, .binOp .leq t x y u, t', p', af, none⟩ :: rest) := h
theorem KQ_bleq (h : Qt P ops ⟨d, .binOp .leq t x y u, t', p', af, none⟩ st v ob1 m) : Qt P ops ⟨d, .binOp .leq t x y u, t', p', af, none⟩ st v ob1 m := h
theorem K_bgtr (h : AL P E ops Q (⟨d, .binOp .gtr t x y u, t', p', af, none⟩ :: rest) st) : AL P E ops Q (⟨d, .binOp .gtr t x y u, t', p', af, none⟩ :: rest) st := h
theorem KD_bgtr (h : DR P E l A S M Q N ts obs aS mS done k c (⟨d, .binOp .gtr t x y u, t', p', af, none⟩ :: rest)) : DR P E l A S M Q N ts obs aS mS done k c (⟨d, .binOp .gtr t x y u, t', p', af, none⟩ :: rest) := h
theorem KQ_bgtr (h : Qt P ops ⟨d, .binOp .gtr t x y u, t', p', af, none⟩ st v ob1 m) : Qt P ops ⟨d, .binOp .gtr t x y u, t', p', af, none⟩ st v ob1 m := h
theorem K_bgeq (h : AL P E ops Q (⟨d, .binOp .geq t x y u, t', p', af, none⟩ :: rest) st) : AL P E ops Q (⟨d, .binOp .geq t x y u, t', p', af, none⟩ :: rest) st := h
theorem KD_bgeq (h : DR P E l A S M Q N ts obs aS mS done k c (⟨d, .binOp .geq t x y u, t', p', af, none⟩ :: rest)) : DR P E l A S M Q N ts obs aS mS done k c (⟨d, .binOp .geq t x y u, t', p', af, none⟩ :: rest) := h
theorem KQ_bgeq (h : Qt P ops ⟨d, .binOp .geq t x y u, t', p', af, none⟩ st v ob1 m) : Qt P ops ⟨d, .binOp .geq t x y u, t', p', af, none⟩ st v ob1 m := h

/-! ### Append, continued -/
theorem sbE_plain : ∀ (cs : List V1) (es : List (List T)), sbE cs = some es → plainT es ∧ ∀ e ∈ es, e.length = 1 := fun cs es h => by
  obtain ⟨h1, h2⟩ := sbE_ok cs es h
  refine ⟨fun e he t ht => ?_, fun e he => ?_⟩
  · obtain ⟨i, hi⟩ := List.getElem?_of_mem he
    obtain ⟨_, u, _, h3⟩ := h2 i e hi
    subst h3
    simp at ht
    exact ⟨u, ht⟩
  · obtain ⟨i, hi⟩ := List.getElem?_of_mem he
    obtain ⟨_, u, _, h3⟩ := h2 i e hi
    rw [h3]; rfl
section
variable {o : Oper} {dd : Nat} {qs rs : List Nat} {p q NN by_ : Nat} {es es' : List (List T)} {cs : List V1} {z0 : Value} {ee tx : TypeId} {s : ByteArray}
theorem M_appsb [hm : TyMake P t ee [z0] by_] (ho : o.op = .call { callee := .builtin .append, args := #[y, z], argTypes := #[t, t] }) (hg : o.guard = none) (hd : o.dst = some dd) (hl : Nat.blt dd N = true) (hy : St.ev ⟨N, ts, obs⟩ y = .o (.c (.ref p))) (hp : obs[p]? = some (.row 1 es)) (hz : St.ev ⟨N, ts, obs⟩ z = .o (.c (.sb q NN 1))) (hq : obs[q]? = some (.box cs)) (hc : cs.length = NN) (hs : sbE cs = some es')
    (hb : (es.length + NN) * by_ ≤ 140737488355328) (h63 : es.length + NN ≤ 9223372036854775807)
    (h : AL P E ops Q rest ⟨N, (dd, .o (.c (.ref p))) :: (ts.map fun e => (e.1, e.2.kill [p])), (obs.map (Ob.kill [p])).set p (.row 1 (es ++ es'))⟩) : AL P E ops Q (o :: rest) ⟨N, ts, obs⟩ := by
  have h1 := sbE_plain cs es' hs
  have h2 := (sbE_ok cs es' hs).1
  exact L_app (kk := 1) (zs := [z0]) ho hg hy hp hz (by simp only [srcOf, getD_of hq]; exact hs) rfl (by simp) h1.1 h1.2 (by rw [h2, hc]; exact hb) (by rw [h2, hc]; exact h63) (by rw [hd]; exact hl) (by rw [hd]; exact h)
theorem M_appsbnil [hm : TyMake P t ee [z0] by_] (ho : o.op = .call { callee := .builtin .append, args := #[y, z], argTypes := #[t, t] }) (hg : o.guard = none) (hd : o.dst = some dd) (hl : Nat.blt dd N = true) (hy : St.ev ⟨N, ts, obs⟩ y = .o (.c (.rd rs (.v (.slice none 0 0))))) (hz : St.ev ⟨N, ts, obs⟩ z = .o (.c (.sb q NN 1))) (hq : obs[q]? = some (.box cs)) (hc : cs.length = NN) (hs : sbE cs = some es')
    (hb : NN * by_ ≤ 140737488355328) (h63 : NN ≤ 9223372036854775807)
    (h : AL P E ops Q rest ⟨N, (dd, .o (.c (.ref obs.length))) :: ts, obs ++ [.row 1 es']⟩) : AL P E ops Q (o :: rest) ⟨N, ts, obs⟩ := by
  have h1 := sbE_plain cs es' hs
  have h2 := (sbE_ok cs es' hs).1
  exact L_appnil (zs := [z0]) ho hg hy hz (by simp only [srcOf, getD_of hq]; exact hs) (by simp) h1.1 h1.2 (by rw [h2, hc]; exact hb) (by rw [h2, hc]; exact h63) (by rw [hd]; exact hl) (by rw [hd]; exact h)
theorem M_appstr [hm : TyMake P t ee [z0] by_] [TyStr P tx] (ho : o.op = .call { callee := .builtin .append, args := #[y, z], argTypes := #[t, tx] }) (hg : o.guard = none) (hd : o.dst = some dd) (hl : Nat.blt dd N = true) (hy : St.ev ⟨N, ts, obs⟩ y = .o (.c (.ref p))) (hp : obs[p]? = some (.row 1 es)) (hz : St.ev ⟨N, ts, obs⟩ z = .o (.c (.rd qs (.v (.string s)))))
    (hb : (es.length + s.size) * by_ ≤ 140737488355328) (h63 : es.length + s.size ≤ 9223372036854775807)
    (h : AL P E ops Q rest ⟨N, (dd, .o (.c (.ref p))) :: (ts.map fun e => (e.1, e.2.kill [p])), (obs.map (Ob.kill [p])).set p (.row 1 (es ++ bE s.data.toList))⟩) : AL P E ops Q (o :: rest) ⟨N, ts, obs⟩ :=
  L_appstr (st := ⟨N, ts, obs⟩) (by exact ho) hg hy hp hz (by rw [hd]; exact hl) hb h63 (by rw [hd]; exact h)
theorem M_appstrnil [hm : TyMake P t ee [z0] by_] [TyStr P tx] (ho : o.op = .call { callee := .builtin .append, args := #[y, z], argTypes := #[t, tx] }) (hg : o.guard = none) (hd : o.dst = some dd) (hl : Nat.blt dd N = true) (hy : St.ev ⟨N, ts, obs⟩ y = .o (.c (.rd rs (.v (.slice none 0 0))))) (hz : St.ev ⟨N, ts, obs⟩ z = .o (.c (.rd qs (.v (.string s)))))
    (hb : s.size * by_ ≤ 140737488355328) (h63 : s.size ≤ 9223372036854775807)
    (h : AL P E ops Q rest ⟨N, (dd, .o (.c (.ref obs.length))) :: ts, obs ++ [.row 1 (bE s.data.toList)]⟩) : AL P E ops Q (o :: rest) ⟨N, ts, obs⟩ :=
  L_appstrnil (st := ⟨N, ts, obs⟩) (by exact ho) hg hy hz (by rw [hd]; exact hl) hb h63 (by rw [hd]; exact h)
/-- a literal slice without elements -/
theorem q_bslice0 {zs : List Value} [hm : TyMake P t ee zs by_] (ho : o.op = .buildSlice t 0 #[]) (hg : o.guard = none) (hz0 : zs.isEmpty = false) : Qt P ops o st (.o (.c (.ref m))) [.row zs.length []] m :=
  .new hg fun a w H F hr hn => by
    obtain ⟨inf, hi, hzz⟩ := Option.map_eq_some_iff.1 hm.info
    have hzp : 0 < zs.length := List.length_pos_iff.2 (by intro e; rw [e] at hz0; cases hz0)
    refine ⟨.slice (some ⟨w.heap.size, 0, none⟩) 0 0, w.alloc (.cells #[] ee), .ow (.sl zs.length []) (.slice (some ⟨w.heap.size, 0, none⟩) 0 0) [w.heap.size], ?_, (Below.refl _ _).alloc (Nat.le_refl _) _, ?_, by simp [Pc.fp, Pc.ng], fun b hb => by simp [Pc.fp] at hb; omega, fun H' hgr hq => ⟨⟨_, _, hq⟩, _, _, hq⟩⟩
    · unfold execOp
      simp [ho, Instr.buildSlice, run_underlying hm.slice, sizeOf, typeInfo, hi, Instr.fill, newRow]
      rw [show (Array.range 0).map (fun _ : Nat => (default : Value)) = #[] from Array.eq_empty_of_size_eq_zero (by simp)]
    · exact OW.sl (w := w.alloc (.cells #[] ee)) [] w.heap.size 0 zs.length 0 ee #[] (0, 0) (fun _ _ => undef) [] (heap_alloc_new w _) (.inl rfl) (Nat.le_refl _) (Nat.zero_le _) (by simp) hzp (fun e he => by simp at he) rfl (fun f hf => by simp at hf) (fun i j hi => by simp at hi) (fun i j e t fs f h => by simp at h)
end

/-- A call that hands back a plain value. -/
theorem q_call0 {f : FuncId} [hf : FunOk P f] {o : Oper} {as : Array Operand} {tys : Array TypeId} {args : List V2} {w : Value} {ps : List Nat} (ho : o.op = .call { callee := .value (.func f), args := as, argTypes := tys }) (hg : o.guard = none)
    (hc : Con P f [] args [] (.o (.c (.rd ps (.v w))))) (ha : as.toList.map (fun y => lend2 st.objs (st.ev y)) = args) : Qt P ops o st (.o (.c (.rd [] (.v w)))) [] m := by
  have h := q_call (n := m) (P := P) (ops := ops) (o := o) ho hg hc ha rfl rfl
  refine ⟨fun a w' H F Q K hr hfree hK => h.h a w' H F Q K hr hfree fun v w'' H' F' hgr hok hob hno hv => hK v w'' H' F' hgr hok hob hno ?_⟩
  have h1 : R1 w'' H' F' (.rd (ps.map (m + ·)) (.v w)) v := hv
  obtain ⟨rfl, h2⟩ := RO.plain h1
  exact RO.v _ h2
end
end Go.Proofs.Ytkfnaniegldfaaa
