/-
  In a statement whose order Go leaves open a plain move that waits for nothing may be taken first. No statement of the program is proved here.
  Conditions: none.
-/
import Derived.Test.YtkfnaniegldfaaaDWalk
set_option linter.unusedSimpArgs false
set_option linter.unusedVariables false
namespace Go.Proofs.Ytkfnaniegldfaaa
open Go.RowKit

/-- Nothing that goes on from a panic. -/
class NP (Q : Exit → St → Prop) : Prop where
  no : ∀ c st, ¬ Q (.panic c) st
instance {K : St → Prop} {Q : Exit → St → Prop} [h : NP Q] : NP (thn K Q) := ⟨fun c st hq => h.no c st hq.h⟩
instance {id : Nat} {Q : Exit → St → Prop} [h : NP Q] : NP (blk id Q) := ⟨fun c st hq => h.no c st hq.h⟩
instance {P : Program} {fn : Func} {objs' : List Ob} {res : V} : NP (Fin P fn objs' res) := ⟨fun c st hq => hq.h⟩

def offd (d : Nat) : Operand → Bool
  | .tmp t => !Nat.beq t d
  | _ => true
def blindC (d : Nat) : Callee → Bool
  | .builtin _ => true
  | .value f => offd d f
  | _ => false
/-- These operations do not read slot d. -/
def blindO (d : Nat) : Op → Bool
  | .move x => offd d x
  | .assign x => offd d x
  | .pick c x y => offd d c && offd d x && offd d y
  | .alloc _ => true
  | .box _ x => offd d x
  | .buildSlice _ _ ps => ps.toList.all fun p => offd d p.2
  | .load _ x => offd d x
  | .store _ x y => offd d x && offd d y
  | .binOp _ _ x y _ => offd d x && offd d y
  | .unOp _ _ x => offd d x
  | .convert _ _ x => offd d x
  | .fieldAddr _ x _ => offd d x
  | .indexAddr _ x y => offd d x && offd d y
  | .index _ x y => offd d x && offd d y
  | .extract x _ => offd d x
  | .call c => blindC d c.callee && c.args.toList.all (offd d)
  | _ => false
theorem arr_map_congr {α β : Type} {f g : α → β} {xs : Array α} (h : ∀ x ∈ xs.toList, f x = g x) : xs.map f = xs.map g := by
  apply Array.ext'
  rw [Array.toList_map, Array.toList_map]
  exact List.map_congr_left h
theorem exec_blind {d : Nat} {o : Oper} {r1 r2 : Operand → Value} (hb : blindO d o.op = true) (h : ∀ x, offd d x = true → r1 x = r2 x) : execOp r1 o = execOp r2 o := by
  unfold execOp
  revert hb
  cases ho : o.op with
  | buildSlice t n ps =>
    intro hb
    have : (ps.map fun p => (p.1, r1 p.2)) = ps.map fun p => (p.1, r2 p.2) := arr_map_congr fun p hp => by rw [h p.2 (List.all_eq_true.1 hb p hp)]
    simp only [this]
  | call c =>
    intro hb
    simp only [blindO, Bool.and_eq_true] at hb
    have : c.args.map r1 = c.args.map r2 := arr_map_congr fun x hx => h x (List.all_eq_true.1 hb.2 x hx)
    simp only [resolve, this]
    cases hc : c.callee with
    | builtin b => rfl
    | value f =>
      have h1 := hb.1
      rw [hc] at h1
      simp only [h f h1]
    | invoke x n => rw [hc] at hb; simp [blindC] at hb
  | move x => intro hb; simp only [h _ (show offd d x = true from hb)]
  | assign x => intro hb; simp only [h _ (show offd d x = true from hb)]
  | box t x => intro hb; simp only [h _ (show offd d x = true from hb)]
  | load t x => intro hb; simp only [h _ (show offd d x = true from hb)]
  | unOp u t x => intro hb; simp only [h _ (show offd d x = true from hb)]
  | convert t u x => intro hb; simp only [h _ (show offd d x = true from hb)]
  | fieldAddr t x f => intro hb; simp only [h _ (show offd d x = true from hb)]
  | extract x i => intro hb; simp only [h _ (show offd d x = true from hb)]
  | store t x y => intro hb; simp only [blindO, Bool.and_eq_true] at hb; simp only [h x hb.1, h y hb.2]
  | binOp b t x y u => intro hb; simp only [blindO, Bool.and_eq_true] at hb; simp only [h x hb.1, h y hb.2]
  | indexAddr t x y => intro hb; simp only [blindO, Bool.and_eq_true] at hb; simp only [h x hb.1, h y hb.2]
  | index t x y => intro hb; simp only [blindO, Bool.and_eq_true] at hb; simp only [h x hb.1, h y hb.2]
  | alloc t => intro hb; rfl
  | pick c x y => intro hb; simp only [blindO, Bool.and_eq_true] at hb; simp only [h c hb.1.1, h x hb.1.2, h y hb.2]
  | _ => intro hb; exact absurd hb Bool.false_ne_true
theorem put_comm {a : Act} {d e : Nat} {u v : Value} (h : e ≠ d) : (a.put (some d) u).put (some e) v = (a.put (some e) v).put (some d) u := by
  simp only [Act.put]
  congr 1
  apply Array.ext_getElem?
  intro i
  simp only [Array.getElem?_setIfInBounds, Array.size_setIfInBounds]
  by_cases h1 : e = i
  · subst h1
    simp [h, Ne.symm h]
  · simp [h1]
theorem put_comm' {a : Act} {d : Nat} {e : Option Nat} {u v : Value} (h : e ≠ some d) : (a.put (some d) u).put e v = (a.put e v).put (some d) u := by
  cases e with
  | none => rfl
  | some e => exact put_comm fun hh => h (by rw [hh])
theorem eval_put {a : Act} {d : Nat} {u : Value} {x : Operand} (h : offd d x = true) : (a.put (some d) u).eval x = a.eval x := by
  cases x with
  | tmp t =>
    have hne : t ≠ d := fun e => by
      subst e
      rw [offd, show Nat.beq t t = true from Nat.beq_refl t] at h
      cases h
    show (a.tmps.setIfInBounds d u).getD t undef = a.tmps.getD t undef
    rw [Array.getD_eq_getD_getElem?, Array.getD_eq_getD_getElem?, Array.getElem?_setIfInBounds_ne (Ne.symm hne)]
  | _ => rfl
theorem eval_put_tmp {a : Act} {t : Nat} {e : Option Nat} {v : Value} (h : e ≠ some t) : (a.put e v).eval (.tmp t) = a.eval (.tmp t) := by
  cases e with
  | none => rfl
  | some e =>
    refine eval_put ?_
    rw [offd, Bool.not_eq_true']
    cases hb : Nat.beq t e with
    | false => rfl
    | true => exact absurd (by rw [Nat.eq_of_beq_eq_true hb]) h

section
variable {P : Program} {l : List Oper} {Q : Exit → Act → World → Prop}
/-- An operation that does not read slot d, whose slot is another: done behind the move and before it. -/
theorem wp_blind {o : Oper} {d : Nat} {u : Value} (hQ : ∀ c a w, ¬ Q (.panic c) a w) (hb : blindO d o.op = true) (hd : o.dst ≠ some d) {a : Act} {w : World} {K K' : Act → World → Prop} (hK : ∀ v D w, K ({ (a.put (some d) u) with defers := D }.put o.dst v) w → K' ({ a with defers := D }.put o.dst v) w)
    (h : o.wp P (a.put (some d) u) w K Q) : o.wp P a w K' Q := by
  have he : execOp (a.put (some d) u).eval o = execOp a.eval o := exec_blind hb fun x hx => eval_put hx
  unfold Oper.wp at h ⊢
  rw [he] at h
  generalize (execOp a.eval o).run P w = r at h ⊢
  have hv : ∀ v w, K ((a.put (some d) u).put o.dst v) w → K' (a.put o.dst v) w := fun v w hk => hK v a.defers w hk
  cases r with
  | ok n w' =>
    cases n <;> simp only [Oper.upon] at h ⊢ <;>
      first
        | exact hv _ _ h
        | exact hK _ _ _ h
        | exact Calls.mono h (fun e w'' he => by cases e <;> first | exact hv _ _ he | exact absurd he (hQ _ _ _) | exact he)
        | exact Rows.mono h (fun _ _ he => hv _ _ he)
  | halt x w' => cases x <;> simp only [Oper.upon] at h ⊢ <;> exact absurd h (hQ _ _ _)
end
end Go.Proofs.Ytkfnaniegldfaaa
