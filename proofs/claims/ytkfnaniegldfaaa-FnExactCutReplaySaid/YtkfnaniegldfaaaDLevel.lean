/-
  What a valid level is, in the program and in the reference.
  Conditions: none.
-/
import Derived.Test.YtkfnaniegldfaaaDOk
set_option linter.unusedSimpArgs false
set_option linter.unusedVariables false
namespace Go.Proofs.Ytkfnaniegldfaaa
open Go.RowKit

abbrev Seen := Bool × Bool × Bool × Bool
/-- One tile: e: is it at the edge. -/
def tileM (e : Bool) (t : Int) (s : Seen × Bool) : Option (Seen × Bool) :=
  if t = 35 then some s else if e then none else
  if t = 49 then (if s.1.1 then none else some ((true, s.1.2), true)) else
  if t = 50 then (if s.1.2.1 then none else some ((s.1.1, true, s.1.2.2), true)) else
  if t = 51 then (if s.1.2.2.1 then none else some ((s.1.1, s.1.2.1, true, s.1.2.2.2), true)) else
  if t = 52 then (if s.1.2.2.2 then none else some ((s.1.1, s.1.2.1, s.1.2.2.1, true), true)) else
  if t = 111 ∨ t = 46 then some (s.1, true) else none
def colsM (row : ByteArray) (er : Bool) (w : Nat) (s : Seen × Bool) : Nat → Option (Seen × Bool)
  | 0 => some s
  | c + 1 => match colsM row er w s c with
    | none => none
    | some s' => tileM (er || decide (c = 0) || decide (c + 1 = w)) (byteAt row c) s'
def rowsM (rows : List ByteArray) (w : Nat) : Nat → Option (Seen × Bool)
  | 0 => some ((false, false, false, false), false)
  | r + 1 => match rowsM rows w r with
    | none => none
    | some s => match rows[r]? with
      | none => none
      | some row => if row.size = w then colsM row (decide (r = 0) || decide (r + 1 = rows.length)) w s w else none
def widthM (rows : List ByteArray) : Nat := match rows[0]? with
  | some row => row.size
  | none => 0
def levelOk (l : TLevel) : Bool := decide (3 ≤ l.Rows.length) && decide (l.Rows.length ≤ 12) && decide (4 ≤ widthM l.Rows) && decide (widthM l.Rows ≤ 20) && match rowsM l.Rows (widthM l.Rows) l.Rows.length with
  | some s => s.2
  | none => false

@[reducible] def vb (b : Bool) : V1 := .rd [] (.v (.bool b))
section
variable {rows : List ByteArray} {row : ByteArray} {w k c : Nat} {s s' : Seen × Bool} {er : Bool}
theorem rows_none {n : Nat} (h : rowsM rows w k = none) (hk : k ≤ n) : rowsM rows w n = none := by
  induction n with
  | zero => have : k = 0 := by omega
            subst this; exact h
  | succ n ih =>
    rcases Nat.lt_or_ge n k with h1 | h1
    · have : k = n + 1 := by omega
      subst this; exact h
    · simp [rowsM, ih h1]
theorem cols_none {n : Nat} (h : colsM row er w s c = none) (hc : c ≤ n) : colsM row er w s n = none := by
  induction n with
  | zero => have : c = 0 := by omega
            subst this; exact h
  | succ n ih =>
    rcases Nat.lt_or_ge n c with h1 | h1
    · have : c = n + 1 := by omega
      subst this; exact h
    · simp [colsM, ih h1]
theorem rows_next (h : rowsM rows w k = some s) (hk : k < rows.length) (hw : rows[k].size = w) : rowsM rows w (k + 1) = colsM rows[k] (decide (k = 0) || decide (k + 1 = rows.length)) w s w := by
  rw [rowsM, h]
  simp [List.getElem?_eq_getElem hk, hw]
theorem rows_bad (hk : k < rows.length) (hw : rows[k].size ≠ w) : rowsM rows w (k + 1) = none := by
  rw [rowsM]
  cases rowsM rows w k with
  | none => rfl
  | some s => simp [List.getElem?_eq_getElem hk, hw]
theorem cols_next (h : colsM row er w s c = some s') : colsM row er w s (c + 1) = tileM (er || decide (c = 0) || decide (c + 1 = w)) (byteAt row c) s' := by
  rw [colsM, h]
theorem level_no {l : TLevel} (hk : k < l.Rows.length) (hw : widthM l.Rows = w) (h : rowsM l.Rows w (k + 1) = none) : levelOk l = false := by
  unfold levelOk
  rw [hw, rows_none h (by omega)]
  simp
theorem width_at (h : 0 < rows.length) : widthM rows = rows[0].size := by simp [widthM, List.getElem?_eq_getElem h]
end
end Go.Proofs.Ytkfnaniegldfaaa
