/-
  Plain Lean data as trees of cells: how the arguments' data read. No statement of the program is proved here.
  Conditions: none.
  What the laws' counting, copying and comparing functions return, over slices.
  Conditions: at most 2^20 of everything.
  The program's structs as Lean data. No statement of the program is proved here.
  Conditions: none.
  A contract of the library's as a contract over data. No statement of the program is proved here.
  Conditions: none.
  What is valid: numbers in a range, rows of inputs, levels, replays; in the program and in the reference.
  Conditions: none.
  Numbers as text: FormatInt, in the program (below 100) and in the reference.
  Conditions: not negative.
  Calls of functions that write to what they are lent. No statement of the program is proved here.
  Conditions: none.
  What the laws write into what they hold, and what they read back.
  Conditions: at most 2^30 elements.
  Calls of functions that write to one element's slice of an owned slice of slices. No statement of the program is proved here.
  Conditions: none.
  Rules that the laws' walks use: comparing what is equal. No statement of the program is proved here.
  Conditions: none.
  What the laws write into replays with rows, and what they read back.
  Conditions: at most 2^30 elements.
-/
import Derived.ProofKit
import Derived.Deep.Slices
import Derived.Test.YtkfnaniegldfaaaDoorDDDifRowk0
import Derived.Test.YtkfnaniegldfaaaDoorDDDifRowk7
import Derived.Test.YtkfnaniegldfaaaDoorDDDifRowk8
section
set_option linter.unusedVariables false
set_option linter.unusedSimpArgs false
namespace Go.Proofs.YtkfnaniegldfaaaDoor
open Go.RowKit Go.ChangeShapes Go.WideShapes Go.Deep

/-- A number of 64 bits. -/
def I64 (x : Int) : Prop := -9223372036854775808 ≤ x ∧ x ≤ 9223372036854775807

/-- Data of one Go type: its cells; gd: it fits; wt: how much the laws' counting functions count. -/
class Enc (α : Type) where
  k : Nat
  pos : 0 < k
  e : α → List T
  len : ∀ x, (e x).length = k
  gd : α → Prop
  wt : α → Nat
instance : Enc Int := ⟨1, by omega, fun x => [.v (.int .i64 x)], fun _ => rfl, I64, fun _ => 0⟩
instance : Enc Bool := ⟨1, by omega, fun x => [.v (.bool x)], fun _ => rfl, fun _ => True, fun _ => 0⟩
instance : Enc ByteArray := ⟨1, by omega, fun x => [.v (.string x)], fun _ => rfl, fun x => x.size ≤ 9223372036854775807, fun x => x.size⟩
def wts {α : Type} [Enc α] : List α → Nat
  | [] => 0
  | x :: xs => Enc.wt x + wts xs
/-- The elements of a slice. -/
@[reducible] def els {α : Type} [Enc α] (xs : List α) : List (List T) := xs.map Enc.e
instance {α : Type} [Enc α] : Enc (List α) := ⟨1, by omega, fun xs => [.sl (Enc.k α) (els xs)], fun _ => rfl, fun xs => xs.length ≤ 9223372036854775807 ∧ ∀ x ∈ xs, Enc.gd x, fun xs => xs.length + wts xs⟩

/-- A slice ass one cell; ass an argument; its elements' cells. -/
@[reducible] def sl {α : Type} [Enc α] (xs : List α) : T := .sl (Enc.k α) (els xs)
@[reducible] def ai (n : Int) : V2 := .c (.rd [] (.v (.int .i64 n)))
@[reducible] def astr (s : ByteArray) : V2 := .c (.rd [] (.v (.string s)))
@[reducible] def al {α : Type} [Enc α] (xs : List α) : V2 := .c (.rd [] (sl xs))
/-- A struct ass an argument. -/
@[reducible] def ag {α : Type} [Enc α] (x : α) : V2 := .ag ((Enc.e x).map (V1.rd []))
/-- A slice in a slot. -/
@[reducible] def L {α : Type} [Enc α] (xs : List α) : V := .o (al xs)

/-- Data of plain cells. -/
class PlainE (α : Type) [Enc α] : Prop where
  plain : ∀ (x : α) (t : T), t ∈ Enc.e x → ∃ u, t = .v u
instance : PlainE Int := ⟨fun x t h => by simp [Enc.e] at h; exact ⟨_, h⟩⟩
instance : PlainE Bool := ⟨fun x t h => by simp [Enc.e] at h; exact ⟨_, h⟩⟩
instance : PlainE ByteArray := ⟨fun x t h => by simp [Enc.e] at h; exact ⟨_, h⟩⟩
/-- Bytes ass a string. -/
@[reducible] def bs (l : List UInt8) : ByteArray := ⟨l.toArray⟩
theorem bs_app (a b : List UInt8) : bs a ++ bs b = bs (a ++ b) := by
  apply ByteArray.ext
  rw [ByteArray.data_append]
  simp [bs]
theorem bs_size (l : List UInt8) : (bs l).size = l.length := by simp [bs, ByteArray.size]
theorem cat_size (a b : ByteArray) : (a ++ b).size = a.size + b.size := by simp [ByteArray.size_append]
theorem bs_list (l : List UInt8) : (bs l).data.toList = l := by simp [bs]
theorem bs_inj {a b : List UInt8} : bs a = bs b ↔ a = b := ⟨fun h => by have := congrArg (·.data.toList) h; simpa [bs_list] using this, fun h => by rw [h]⟩
theorem S_eq {a b : ByteArray} (h : a = b) : S a = S b := by rw [h]
theorem els_at {α : Type} [Enc α] {xs : List α} {k : Nat} (h : k < xs.length) : (els xs)[(k : Int).toNat]? = some (Enc.e xs[k]) := by simp [els, h]
theorem els_len {α : Type} [Enc α] (xs : List α) : (els xs).length = xs.length := by simp [els]
theorem wts_take {α : Type} [Enc α] : ∀ (xs : List α) (k : Nat) (h : k < xs.length), wts (xs.take (k + 1)) = wts (xs.take k) + Enc.wt xs[k]
  | x :: xs, 0, _ => by simp [wts]
  | x :: xs, k + 1, h => by
    have := wts_take xs k (by simpa using h)
    simp only [List.take_succ_cons, wts, List.getElem_cons_succ, this]
    omega
theorem wts_le {α : Type} [Enc α] : ∀ (xs : List α) (x : α), x ∈ xs → Enc.wt x ≤ wts xs
  | y :: xs, x, h => by
    simp only [wts]
    rcases List.mem_cons.1 h with rfl | h
    · omega
    · have := wts_le xs x h; omega
theorem wts_take_le {α : Type} [Enc α] : ∀ (xs : List α) (k : Nat), wts (xs.take k) ≤ wts xs
  | [], k => by simp [wts]
  | x :: xs, 0 => by simp [wts]
  | x :: xs, k + 1 => by
    have := wts_take_le xs k
    simp only [List.take_succ_cons, wts]
    omega

/-! ### Readings -/
theorem list_of_each {α : Type} {p : Nat → α → Prop} : ∀ n : Nat, (∀ i, i < n → ∃ y, p i y) → ∃ ys : List α, ys.length = n ∧ ∀ (i : Nat) (y : α), ys[i]? = some y → p i y
  | 0, _ => ⟨[], rfl, fun _ _ h => by simp at h⟩
  | n + 1, h => by
    obtain ⟨ys, h1, h2⟩ := list_of_each n fun i hi => h i (by omega)
    obtain ⟨y, hy⟩ := h n (by omega)
    refine ⟨ys ++ [y], by simp [h1], fun i z hz => ?_⟩
    rcases Nat.lt_or_ge i ys.length with hi | hi
    · rw [List.getElem?_append_left hi] at hz
      exact h2 i z hz
    · rw [List.getElem?_append_right hi] at hz
      have hi0 : i - ys.length = 0 := by
        rcases Nat.eq_zero_or_pos (i - ys.length) with h0 | h0
        · exact h0
        · rw [List.getElem?_eq_none (by simp; omega)] at hz
          cases hz
      rw [hi0] at hz
      simp only [List.getElem?_cons_zero, Option.some.injEq] at hz
      subst hz
      have : i = n := by omega
      subst this
      exact hy

/-- The cells cs read ass x. -/
def Reads {α : Type} [Enc α] (w : World) (x : α) (cs : List Value) : Prop := cs.length = Enc.k α ∧ ∀ (j : Nat) (t : T) (u : Value), (Enc.e x)[j]? = some t → cs[j]? = some u → RO w (fun _ => True) t u

/-- A Go type's readings are a Lean type's. -/
class RdOf (P : Program) (t : TypeId) (α : outParam Type) [Enc α] : Prop where
  size : P.cellsOf t = Enc.k α
  of : ∀ {H : Type} {enc : TypeId × Value → H} {w : World} {spare : Nat → Bool} {held : Bool} {fuel : Nat} {cs : List Value} {x : DataW H × List MemPlace},
    DataW.trod enc P w 0 spare held fuel t cs = some x → ∃ y : α, Enc.gd y ∧ Reads w y cs

theorem i64_of_wf {n : Int} (h : (Lit.int .i64 n).wf = true) : I64 n := by
  simp [Lit.wf, IntKind.min, IntKind.max, IntKind.signed, IntKind.bits] at h
  exact ⟨by omega, by omega⟩
theorem reads_one {α : Type} [Enc α] {w : World} {x : α} {t : T} {u : Value} (he : Enc.e x = [t]) (h : RO w (fun _ => True) t u) : Reads w x [u] := by
  refine ⟨by rw [← Enc.len x, he]; rfl, fun j t' u' h1 h2 => ?_⟩
  rw [he] at h1
  cases j with
  | zero => simp at h1 h2; subst h1 h2; exact h
  | succ j => simp at h1
theorem rdOf_int {P : Program} {t : TypeId} (ht : P.underlying t = some (.int .i64)) (hs : P.cellsOf t = 1) : RdOf P t Int where
  size := hs
  of h := by
    obtain ⟨n, rfl, _, h3⟩ := DataW.trod_int ht h
    exact ⟨n, i64_of_wf h3, reads_one rfl (.v _ rfl)⟩
theorem rdOf_string {P : Program} {t : TypeId} (ht : P.underlying t = some .string) (hs : P.cellsOf t = 1) : RdOf P t ByteArray where
  size := hs
  of h := by
    obtain ⟨s, rfl, _, h3⟩ := DataW.trod_string ht h
    exact ⟨s, by simpa [maxLen, Enc.gd] using h3, reads_one rfl (.v _ rfl)⟩
theorem rdOf_slice {P : Program} {t e : TypeId} {α : Type} [Enc α] [hα : RdOf P e α] (ht : P.underlying t = some (.slice e)) (hs : P.cellsOf t = 1) : RdOf P t (List α) where
  size := hs
  of {H enc w spare held fuel cs x} h := by
    rcases open_slice ht h with ⟨rfl, _⟩ | ⟨a, len, cap, m, n, D, Pl, rfl, _, hl, hm, hmm, _, hi⟩
    · exact ⟨[], ⟨by simp, by simp⟩, reads_one rfl (.nil _ _ _ (by simp [maxLen]))⟩
    · have hlm : len ≤ m := by rw [hmm]; split <;> omega
      obtain ⟨ys, h1, h2⟩ := list_of_each (p := fun i y => ∃ es, w.cells? 0 (a.add (i * P.cellsOf e)) (P.cellsOf e) = some es ∧ Enc.gd (α := α) y ∧ Reads w y es) len fun i hi' => by
        obtain ⟨es, h3, h4⟩ := hi i (by omega)
        obtain ⟨y, hy⟩ := hα.of h4
        exact ⟨y, es, h3, hy⟩
      subst h1
      refine ⟨ys, ⟨by simp [maxLen] at hm; omega, fun y hy => ?_⟩, ?_⟩
      · obtain ⟨i, hi'⟩ := List.getElem?_of_mem hy
        obtain ⟨es, _, hg, _⟩ := h2 i y hi'
        exact hg
      refine reads_one rfl ?_
      rcases Nat.eq_zero_or_pos ys.length with h0 | h0
      · have := List.eq_nil_of_length_eq_zero h0
        subst this
        exact .nil _ _ _ hm
      · have hsp : a.spot = none := by
          obtain ⟨es, h3, _⟩ := h2 0 _ (List.getElem?_eq_getElem h0)
          obtain ⟨_, hcl, hat⟩ := World.cells?_some h3
          have hp : 0 < P.cellsOf e := by rw [hα.size]; exact Enc.pos
          have := hat 0 hp
          rw [List.getElem?_eq_getElem (by omega)] at this
          have h5 := World.cell?_spot this
          simpa [Addr.add] using h5
        obtain ⟨b, o, sp⟩ := a
        simp only at hsp
        subst hsp
        have hel : ∀ i, i < ys.length → ∃ es, w.cells? 0 ((⟨b, o, none⟩ : Addr).add (i * P.cellsOf e)) (P.cellsOf e) = some es := fun i hi' => by
          obtain ⟨es, h3, _⟩ := h2 i _ (List.getElem?_eq_getElem hi')
          exact ⟨es, h3⟩
        have hlen : ys.length = (els ys).length := (els_len ys).symm
        rw [hlen]
        refine .sl (els ys) b o (Enc.k α) cap (fun i j => ((w.cells? 0 ((⟨b, o, none⟩ : Addr).add (i * P.cellsOf e)) (P.cellsOf e)).getD []).getD j undef) trivial (by rw [els_len]; exact hl) hm Enc.pos (fun e' he => ?_) (fun i j hi' hj => ?_) fun i j e' t' h3 h4 => ?_
        · obtain ⟨y, _, rfl⟩ := List.mem_map.1 he
          exact Enc.len y
        · rw [els_len] at hi'
          obtain ⟨es, h3⟩ := hel i hi'
          obtain ⟨_, hcl, hat⟩ := World.cells?_some h3
          rw [hα.size] at hcl
          have h5 := hat j (by rw [hα.size]; exact hj)
          rw [add_lit, add_lit, hα.size, List.getElem?_eq_getElem (by omega)] at h5
          rw [h3]
          simp only [Option.getD_some]
          rw [h5, List.getD_eq_getElem?_getD, List.getElem?_eq_getElem (by omega)]
          rfl
        · rw [List.getElem?_map] at h3
          obtain ⟨y, hy, rfl⟩ := Option.map_eq_some_iff.1 h3
          obtain ⟨es, h5, _, h6⟩ := h2 i y hy
          have hj : j < es.length := by rw [h6.1, ← Enc.len y]; exact getE_lt h4
          show RO w _ t' (((w.cells? 0 ((⟨b, o, none⟩ : Addr).add (i * P.cellsOf e)) (P.cellsOf e)).getD []).getD j undef)
          rw [h5]
          simp only [Option.getD_some]
          rw [getD_of (List.getElem?_eq_getElem hj)]
          exact h6.2 j t' _ h4 (List.getElem?_eq_getElem hj)

theorem reads_of_Trod {P : Program} {t : TypeId} {α : Type} [Enc α] [hα : RdOf P t α] {H : Type} {enc : TypeId × Value → H} {w : World} {spare : Nat → Bool} {held : Bool} {v : Value} {d : DataW H} {p : List MemPlace}
    (h : DataW.Trod enc P w 0 spare held t v d p) : ∃ y : α, Enc.gd y ∧ Reads w y v.cells.toList := by
  obtain ⟨fuel, hf⟩ := h
  exact hα.of hf

theorem r2_agg {α : Type} [Enc α] {w : World} {H : Hs} {x : α} {cs : List Value} (h : Reads w x cs) : R2 w H (fun b => b < w.heap.size) (ag x) (.agg cs.toArray) := by
  refine ⟨cs, rfl, by simp [h.1, Enc.len], fun i c u h1 h2 => ?_⟩
  rw [List.getElem?_map] at h1
  obtain ⟨t, h3, rfl⟩ := Option.map_eq_some_iff.1 h1
  exact RO.weak (h.2 i t u h3 h2) fun b _ hb => .inl hb
/-- A law's call. -/
theorem law_calls {P : Program} {f : FuncId} {args : List V2} (hc : Con P f [] args [] (B true)) (w : World) (vs : List Value) (hl : vs.length = args.length) (hr : ∀ (i : Nat) (x : V2) (v : Value), args[i]? = some x → vs[i]? = some v → R2 w (fun _ => .nil) (fun b => b < w.heap.size) x v) :
    Calls P f vs.toArray w fun e w' => e = .returned (.bool true) ∧ Below w.heap.size w w' := by
  refine (hc w (fun _ => .nil) (fun b => b < w.heap.size) vs ⟨fun _ => trivial, fun _ => by simp [Pc.fp], fun p q b h => by simp [Pc.fp] at h, fun p b h => by simp [Pc.fp] at h, fun _ h => h⟩ (fun p => by simp [RB]) hl hr).mono ?_
  rintro e w' ⟨H', F', rv, rfl, hs, _, _, hv⟩
  refine ⟨by rw [(RO.plain (show RO w' _ (.v (.bool true)) rv from hv)).1], hs.os, hs.tape, hs.output, hs.size, fun b hb => hs.keep b hb fun p => by simp [Pc.fp]⟩

end Go.Proofs.YtkfnaniegldfaaaDoor
end

section
set_option linter.unusedSimpArgs false
set_option linter.unusedVariables false
namespace Go.Proofs.YtkfnaniegldfaaaDoor
open Go.RowKit

theorem I_eq {a b : Int} (h : a = b) : I a = I b := by rw [h]
theorem B_eq {a b : Bool} (h : a = b) : B a = B b := by rw [h]
def szr (n : Nat) (left : Int) : Int := if left < n then -1 else left - n
theorem szr_neg {n : Nat} {left : Int} (h : left < n) : szr n left = -1 := if_pos h
theorem szr_pos {n : Nat} {left : Int} (h : (n : Int) ≤ left) : szr n left = left - n := if_neg (by omega)
theorem wts_int : ∀ xs : List Int, wts xs = 0
  | [] => rfl
  | x :: xs => by simp [wts, wts_int xs, Enc.wt]
theorem eq_ne {α : Type} [DecidableEq α] {xs ys : List α} {j : Nat} (h1 : j < xs.length) (h2 : j < ys.length) (h : ¬ xs[j] = ys[j]) : decide (xs = ys) = false := by
  rw [decide_eq_false_iff_not]
  intro e
  subst e
  exact h rfl
theorem eq_all {α : Type} [DecidableEq α] {xs ys : List α} {j : Nat} (h1 : xs.length ≤ j) (h2 : xs.length = ys.length) (h : xs.take j = ys.take j) : decide (xs = ys) = true := by
  rw [List.take_of_length_le h1, List.take_of_length_le (by omega)] at h
  simp [h]
theorem eq_len {α : Type} [DecidableEq α] {xs ys : List α} (h : xs.length ≠ ys.length) : decide (xs = ys) = false := by
  rw [decide_eq_false_iff_not]
  intro e
  subst e
  exact h rfl
theorem eq_next {α : Type} {xs ys : List α} {j : Nat} (h1 : j < xs.length) (h2 : j < ys.length) (h : xs.take j = ys.take j) (e : xs[j] = ys[j]) : xs.take (j + 1) = ys.take (j + 1) := by
  rw [List.take_succ_eq_append_getElem h1, List.take_succ_eq_append_getElem h2, h, e]

/-! ### Counting -/
set_option maxHeartbeats 8000000 in
theorem sz_IntS (xs : List Int) (left : Int) (hg : Enc.gd xs) (h0 : 0 ≤ left) (h1 : left ≤ 1048576) : Con Tryd.prog 36 [] [al xs, ai left] [] (I (szr (Enc.wt xs) left)) := by
  have hlen := els_len xs
  have hx := hg.1
  have hw : Enc.wt xs = xs.length := by simp [Enc.wt, wts_int]
  refine Con.of Tryd.func36 rfl Tryd.ntmps36 rfl (fun E => ?_)
  refine A_seq ?_; refine A_region ?_; refine M0 (q_assignC rfl rfl rfl) rfl rfl ?_; refine L_nil ?_; refine T_n ?_; refine A_seq ?_; refine A_region ?_; refine M0 (q_moveC rfl rfl rfl) rfl rfl ?_
  refine M0 (q_moveC rfl rfl rfl) rfl rfl ?_; refine M0 (q_len rfl rfl rfl) rfl rfl ?_; refine M0 (q_sub rfl rfl rfl rfl (by omega)) rfl rfl ?_
  refine M0 (q_assignC rfl rfl rfl) rfl rfl ?_; refine L_nil ?_; refine T_n ?_; refine A_seq ?_; refine A_seq ?_; refine A_region ?_; refine M0 (q_moveC rfl rfl rfl) rfl rfl ?_
  refine M0 (q_lss rfl rfl rfl rfl) rfl rfl ?_; refine L_nil ?_; refine T_n ?_
  refine A_cond rfl (fun h => ?_) (fun h => ?_)
  · refine A_seq ?_; refine A_region ?_; refine M0 (q_assignC rfl rfl rfl) rfl rfl ?_; refine L_nil ?_; refine T_n ?_; refine A_ret ?_; refine T_r ?_; refine F_r ?_
    have h2 := of_decide_eq_true (p := _) (by simpa using h)
    exact E_tmp rfl rfl (W_end [] (by decide) rfl rfl (I_eq (by rw [szr_neg (by omega)])))
  · refine A_skip ?_; refine T_n ?_; refine A_seq ?_; refine A_region ?_; refine M0 (q_moveC rfl rfl rfl) rfl rfl ?_; refine M0 (q_assignC rfl rfl rfl) rfl rfl ?_; refine L_nil ?_; refine T_n ?_
    refine A_ret ?_; refine F_r ?_
    have h2 := of_decide_eq_false h
    exact E_tmp rfl rfl (W_end [] (by decide) rfl rfl (I_eq (by rw [szr_pos (by omega)]; omega)))
set_option maxHeartbeats 1000000 in
theorem sz_StringS (xs : List ByteArray) (left : Int) (hg : Enc.gd xs) (h0 : 0 ≤ left) (h1 : left ≤ 1048576) : Con Tryd.prog 79 [] [al xs, ai left] [] (I (szr (Enc.wt xs) left)) := by
  have hlen := els_len xs
  have hx := hg.1
  have hw : Enc.wt xs = xs.length + wts xs := rfl
  refine Con.of Tryd.func79 rfl Tryd.ntmps79 rfl (fun E => ?_)
  refine A_seq ?_; refine A_region ?_; refine M0 (q_assignC rfl rfl rfl) rfl rfl ?_; refine L_nil ?_; refine T_n ?_; refine A_seq ?_; refine A_region ?_; refine M0 (q_moveC rfl rfl rfl) rfl rfl ?_
  refine M0 (q_moveC rfl rfl rfl) rfl rfl ?_; refine M0 (q_len rfl rfl rfl) rfl rfl ?_; refine M0 (q_sub rfl rfl rfl rfl (by omega)) rfl rfl ?_
  refine M0 (q_assignC rfl rfl rfl) rfl rfl ?_; refine L_nil ?_; refine T_n ?_; refine A_seq ?_; refine A_seq ?_; refine A_region ?_; refine M0 (q_moveC rfl rfl rfl) rfl rfl ?_
  refine M0 (q_lss rfl rfl rfl rfl) rfl rfl ?_; refine L_nil ?_; refine T_n ?_
  refine A_cond rfl (fun h => ?_) (fun h => ?_)
  · refine A_seq ?_; refine A_region ?_; refine M0 (q_assignC rfl rfl rfl) rfl rfl ?_; refine L_nil ?_; refine T_n ?_; refine A_ret ?_; refine T_r ?_; refine F_r ?_
    have h2 := of_decide_eq_true h
    exact E_tmp rfl rfl (W_end [] (by decide) rfl rfl (I_eq (by rw [szr_neg (by omega)])))
  have h2 : ¬ (left - ((els xs).length : Int) < 0) := of_decide_eq_false h
  refine A_skip ?_; refine T_n ?_; refine A_seq ?_; refine A_seq ?_; refine A_region ?_; refine M0 (q_assignC rfl rfl rfl) rfl rfl ?_; refine L_nil ?_; refine T_n ?_; refine A_block ?_
  refine A_loop (fun m st => ∃ k : Nat, k + m = xs.length ∧ (((xs.length : Int) + wts (xs.take k) ≤ left)) ∧ st = (fun k : Nat => (⟨_, [(0, L xs), (1, I (left - (xs.length + wts (xs.take k)))), (5, I k)], []⟩ : St)) k) (xs.length) ⟨(fun k : Nat => (⟨_, [(0, L xs), (1, I (left - (xs.length + wts (xs.take k)))), (5, I k)], []⟩ : St)) 0, W_go [] (by decide) rfl (rfl) (.cons rfl (.cons (I_eq (by simp [els, wts])) (.cons rfl (.nil)))), 0, by omega, by simp [wts]; omega, rfl⟩ ?_
  rintro m_A _ ⟨k, hk_A, hp_A, rfl⟩
  refine A_seq ?_; refine A_seq ?_; refine A_region ?_; refine M0 (q_moveC rfl rfl rfl) rfl rfl ?_; refine M0 (q_moveC rfl rfl rfl) rfl rfl ?_; refine M0 (q_len rfl rfl rfl) rfl rfl ?_
  refine M0 (q_lss rfl rfl rfl rfl) rfl rfl ?_; refine L_nil ?_; refine T_n ?_
  refine A_cond rfl (fun h => ?_) (fun h => ?_)
  · have h3 : k < xs.length := by have := of_decide_eq_true h; omega
    have hat := els_at h3
    have hstep := wts_take xs k h3
    have hle := wts_take_le xs (k + 1)
    have hws : Enc.wt xs[k] = xs[k].size := rfl
    have hgd : xs[k].size ≤ 9223372036854775807 := hg.2 _ (List.getElem_mem h3)
    by_cases h4 : left - ((xs.length : Int) + wts (xs.take k)) - xs[k].size < 0
    · have hb : decide (left - ((xs.length : Int) + wts (xs.take k)) - xs[k].size < 0) = true := decide_eq_true h4
      refine A_skip ?_; refine T_n ?_; refine A_seq ?_; refine A_block ?_; refine A_seq ?_; refine A_region ?_; refine M0 (q_moveC rfl rfl rfl) rfl rfl ?_; refine M0 (q_moveC rfl rfl rfl) rfl rfl ?_
      refine M0 (q_moveC rfl rfl rfl) rfl rfl ?_; refine M0 (q_at rfl rfl rfl rfl (by omega) (by assumption) rfl) rfl rfl ?_; refine M0 (q_lr1 rfl rfl rfl rfl) rfl rfl ?_
      refine M0 (q_lens rfl rfl rfl) rfl rfl ?_; refine M0 (q_sub rfl rfl rfl rfl (by omega)) rfl rfl ?_; refine M0 (q_assignC rfl rfl rfl) rfl rfl ?_; refine L_nil ?_; refine T_n ?_
      refine A_seq ?_; refine A_region ?_; refine M0 (q_moveC rfl rfl rfl) rfl rfl ?_; refine M0 (q_lssK rfl rfl rfl rfl (by assumption)) rfl rfl ?_; refine L_nil ?_; refine T_n ?_
      refine A_ifT rfl ?_; refine A_seq ?_; refine A_region ?_; refine M0 (q_assignC rfl rfl rfl) rfl rfl ?_; refine L_nil ?_; refine T_n ?_; refine A_ret ?_; refine B_r ?_; refine T_r ?_; refine T_r ?_
      refine B_r ?_; refine T_r ?_; refine F_r ?_
      exact E_tmp rfl rfl (W_end [] (by decide) rfl rfl (I_eq (by rw [szr_neg (by omega)])))
    · have hb : decide (left - ((xs.length : Int) + wts (xs.take k)) - xs[k].size < 0) = false := decide_eq_false h4
      refine A_skip ?_; refine T_n ?_; refine A_seq ?_; refine A_block ?_; refine A_seq ?_; refine A_region ?_; refine M0 (q_moveC rfl rfl rfl) rfl rfl ?_; refine M0 (q_moveC rfl rfl rfl) rfl rfl ?_
      refine M0 (q_moveC rfl rfl rfl) rfl rfl ?_; refine M0 (q_at rfl rfl rfl rfl (by omega) (by assumption) rfl) rfl rfl ?_; refine M0 (q_lr1 rfl rfl rfl rfl) rfl rfl ?_
      refine M0 (q_lens rfl rfl rfl) rfl rfl ?_; refine M0 (q_sub rfl rfl rfl rfl (by omega)) rfl rfl ?_; refine M0 (q_assignC rfl rfl rfl) rfl rfl ?_; refine L_nil ?_; refine T_n ?_
      refine A_seq ?_; refine A_region ?_; refine M0 (q_moveC rfl rfl rfl) rfl rfl ?_; refine M0 (q_lssK rfl rfl rfl rfl (by assumption)) rfl rfl ?_; refine L_nil ?_; refine T_n ?_
      refine A_ifF rfl ?_; refine A_skip ?_; refine B_n ?_; refine T_n ?_; refine A_region ?_; refine M0 (q_moveC rfl rfl rfl) rfl rfl ?_; refine M0 (q_add rfl rfl rfl rfl (by omega)) rfl rfl ?_
      refine M0 (q_assignC rfl rfl rfl) rfl rfl ?_; refine L_nil ?_; refine T_n ?_
      exact ⟨xs.length - (k + 1), by omega, (fun k : Nat => (⟨_, [(0, L xs), (1, I (left - (xs.length + wts (xs.take k)))), (5, I k)], []⟩ : St)) (k + 1), W_go [] (by decide) rfl (rfl) (.cons rfl (.cons (I_eq (by rw [hstep]; omega)) (.cons rfl (.nil)))), k + 1, by omega, by omega, rfl⟩
  · have h3 : ¬ ((k : Int) < (els xs).length) := of_decide_eq_false h
    have hk : wts (xs.take k) = wts xs := by rw [List.take_of_length_le (by omega)]
    refine A_exit ?_; refine T_x ?_; refine T_x ?_; refine B_xs ?_; refine T_n ?_; refine A_seq ?_; refine A_region ?_; refine M0 (q_moveC rfl rfl rfl) rfl rfl ?_
    refine M0 (q_assignC rfl rfl rfl) rfl rfl ?_; refine L_nil ?_; refine T_n ?_; refine A_ret ?_; refine F_r ?_
    exact E_tmp rfl rfl (W_end [] (by decide) rfl rfl (I_eq (by rw [szr_pos (by omega)]; omega)))

/-! ### Copying -/
/-- The first k copied, the others still zero. -/
def part {α : Type} [Enc α] (xs : List α) (z : List T) (k : Nat) : List (List T) := els (xs.take k) ++ List.replicate (xs.length - k) z
theorem part_len {α : Type} [Enc α] (xs : List α) (z : List T) {k : Nat} (h : k ≤ xs.length) : (part xs z k).length = xs.length := by simp [part, els]; omega
theorem part_zero {α : Type} [Enc α] (xs : List α) (z : List T) : part xs z 0 = List.replicate (((els xs).length : Int)).toNat z := by simp [part, els]
theorem part_all {α : Type} [Enc α] (xs : List α) (z : List T) {k : Nat} (h : xs.length ≤ k) : part xs z k = els xs := by
  unfold part
  rw [List.take_of_length_le h, show xs.length - k = 0 by omega]
  simp
theorem part_at {α : Type} [Enc α] (xs : List α) (z : List T) {k : Nat} (h : k < xs.length) : (part xs z k)[(k : Int).toNat]? = some z := by
  have h1 : (els (xs.take k)).length = k := by simp [els]; omega
  unfold part
  rw [Int.toNat_natCast, List.getElem?_append_right (by omega), h1, Nat.sub_self, List.getElem?_replicate, if_pos (by omega)]
theorem part_set {α : Type} [Enc α] (xs : List α) (z : List T) {k : Nat} (h : k < xs.length) (ts : List T) (ht : ts = Enc.e xs[k]) (hz : z.length = ts.length) : (part xs z k).set (k : Int).toNat (splice z 0 ts) = part xs z (k + 1) := by
  have h1 : (els (xs.take k)).length = k := by simp [els]; omega
  have h2 : splice z 0 ts = ts := by simp [splice, hz]
  subst ht
  unfold part
  rw [h2, Int.toNat_natCast, List.set_append_right _ _ (by omega), h1, Nat.sub_self, show xs.length - k = (xs.length - (k + 1)) + 1 by omega, List.replicate_succ, List.set_cons_zero]
  have h3 : els (xs.take (k + 1)) = els (xs.take k) ++ [Enc.e xs[k]] := by
    rw [List.take_succ_eq_append_getElem h]
    simp only [els, List.map_append, List.map_cons, List.map_nil]
  rw [h3, List.append_assoc]
  rfl
theorem row_eq {k : Nat} {a b : List (List T)} (h : a = b) : [Ob.row k a] = [Ob.row k b] := by rw [h]

set_option maxHeartbeats 1000000 in
theorem to_IntS (xs : List Int) (hg : Enc.wt xs ≤ 1048576) : Con Tryd.prog 41 [] [al xs] [.row (Enc.k Int) (els xs)] (.o (.c (.ref 0))) := by
  have hlen := els_len xs
  have hw : Enc.wt xs = xs.length + wts xs := rfl
  refine Con.of Tryd.func41 rfl Tryd.ntmps41 rfl (fun E => ?_)
  refine A_seq ?_; refine A_region ?_; refine M0 (q_assignC rfl rfl rfl) rfl rfl ?_; refine L_nil ?_; refine T_n ?_; refine A_seq ?_; refine A_region ?_; refine M0 (q_moveC rfl rfl rfl) rfl rfl ?_
  refine M0 (q_len rfl rfl rfl) rfl rfl ?_; refine M1 (q_make 0 rfl rfl rfl rfl (by omega) (by omega) (by omega) rfl (by decide)) rfl rfl ?_; refine M0 (q_assignC rfl rfl rfl) rfl rfl ?_
  refine L_nil ?_; refine T_n ?_; refine A_seq ?_; refine A_seq ?_; refine A_region ?_; refine M0 (q_assignC rfl rfl rfl) rfl rfl ?_; refine L_nil ?_; refine T_n ?_; refine A_block ?_
  refine A_loop (fun m st => ∃ k : Nat, k + m = xs.length ∧ (True) ∧ st = (fun k : Nat => (⟨_, [(0, L xs), (3, .o (.c (.ref 0))), (4, I k)], [.row 1 (part xs [(.v (.int .i64 0))] k)]⟩ : St)) k) (xs.length) ⟨(fun k : Nat => (⟨_, [(0, L xs), (3, .o (.c (.ref 0))), (4, I k)], [.row 1 (part xs [(.v (.int .i64 0))] k)]⟩ : St)) 0, W_go [0] (by decide) rfl (row_eq (part_zero xs _)) (.cons rfl (.cons rfl (.cons rfl (.nil)))), 0, by omega, trivial, rfl⟩ ?_
  rintro m_A _ ⟨k, hk_A, hp_A, rfl⟩
  refine A_seq ?_; refine A_seq ?_; refine A_region ?_; refine M0 (q_moveC rfl rfl rfl) rfl rfl ?_; refine M0 (q_moveC rfl rfl rfl) rfl rfl ?_; refine M0 (q_len rfl rfl rfl) rfl rfl ?_
  refine M0 (q_lss rfl rfl rfl rfl) rfl rfl ?_; refine L_nil ?_; refine T_n ?_
  refine A_cond rfl (fun h => ?_) (fun h => ?_)
  · have h3 : k < xs.length := by have := of_decide_eq_true h; omega
    have hat := els_at h3
    have hz := part_at xs [(.v (.int .i64 0))] h3
    have hpl : (k : Int) < (part xs [(.v (.int .i64 0))] k).length := by rw [part_len xs _ (by omega)]; omega
    have hwt : Enc.wt xs[k] ≤ wts xs := wts_le xs _ (List.getElem_mem h3)
    refine A_skip ?_; refine T_n ?_; refine A_seq ?_; refine A_block ?_; refine A_region ?_; refine M0 (q_moveC rfl rfl rfl) rfl rfl ?_; refine M0 (q_moveC rfl rfl rfl) rfl rfl ?_
    refine M0 (q_moveC rfl rfl rfl) rfl rfl ?_; refine M0 (q_moveC rfl rfl rfl) rfl rfl ?_; refine M0 (q_at rfl rfl rfl rfl (by omega) (by assumption) rfl) rfl rfl ?_
    refine M0 (q_lr1 rfl rfl rfl rfl) rfl rfl ?_; refine M0 (q_ar rfl rfl rfl rfl rfl (by omega) (by assumption)) rfl rfl ?_
    refine M_ste1 rfl rfl rfl rfl rfl rfl rfl rfl rfl (by assumption) rfl rfl ?_; refine L_nil ?_; refine B_n ?_; refine T_n ?_; refine A_region ?_; refine M0 (q_moveC rfl rfl rfl) rfl rfl ?_
    refine M0 (q_add rfl rfl rfl rfl (by omega)) rfl rfl ?_; refine M0 (q_assignC rfl rfl rfl) rfl rfl ?_; refine L_nil ?_; refine T_n ?_
    exact ⟨xs.length - (k + 1), by omega, (fun k : Nat => (⟨_, [(0, L xs), (3, .o (.c (.ref 0))), (4, I k)], [.row 1 (part xs [(.v (.int .i64 0))] k)]⟩ : St)) (k + 1), W_go [0] (by decide) rfl (row_eq (part_set xs [(.v (.int .i64 0))] h3 _ (by rfl) (by rfl)).symm) (.cons rfl (.cons rfl (.cons rfl (.nil)))), k + 1, by omega, trivial, rfl⟩
  · have h3 : ¬ ((k : Int) < (els xs).length) := of_decide_eq_false h
    refine A_exit ?_; refine T_x ?_; refine T_x ?_; refine B_xs ?_; refine T_n ?_; refine A_seq ?_; refine A_region ?_; refine M0 (q_moveC rfl rfl rfl) rfl rfl ?_
    refine M0 (q_assignC rfl rfl rfl) rfl rfl ?_; refine L_nil ?_; refine T_n ?_; refine A_ret ?_; refine F_r ?_
    exact E_tmp rfl rfl (W_end [0] (by decide) rfl (row_eq (part_all xs _ (by omega)).symm) rfl)
set_option maxHeartbeats 1000000 in
theorem to_StringS (xs : List ByteArray) (hg : Enc.wt xs ≤ 1048576) : Con Tryd.prog 83 [] [al xs] [.row (Enc.k ByteArray) (els xs)] (.o (.c (.ref 0))) := by
  have hlen := els_len xs
  have hw : Enc.wt xs = xs.length + wts xs := rfl
  refine Con.of Tryd.func83 rfl Tryd.ntmps83 rfl (fun E => ?_)
  refine A_seq ?_; refine A_region ?_; refine M0 (q_assignC rfl rfl rfl) rfl rfl ?_; refine L_nil ?_; refine T_n ?_; refine A_seq ?_; refine A_region ?_; refine M0 (q_moveC rfl rfl rfl) rfl rfl ?_
  refine M0 (q_len rfl rfl rfl) rfl rfl ?_; refine M1 (q_make 0 rfl rfl rfl rfl (by omega) (by omega) (by omega) rfl (by decide)) rfl rfl ?_; refine M0 (q_assignC rfl rfl rfl) rfl rfl ?_
  refine L_nil ?_; refine T_n ?_; refine A_seq ?_; refine A_seq ?_; refine A_region ?_; refine M0 (q_assignC rfl rfl rfl) rfl rfl ?_; refine L_nil ?_; refine T_n ?_; refine A_block ?_
  refine A_loop (fun m st => ∃ k : Nat, k + m = xs.length ∧ (True) ∧ st = (fun k : Nat => (⟨_, [(0, L xs), (3, .o (.c (.ref 0))), (4, I k)], [.row 1 (part xs [(.v (.string ⟨#[]⟩))] k)]⟩ : St)) k) (xs.length) ⟨(fun k : Nat => (⟨_, [(0, L xs), (3, .o (.c (.ref 0))), (4, I k)], [.row 1 (part xs [(.v (.string ⟨#[]⟩))] k)]⟩ : St)) 0, W_go [0] (by decide) rfl (row_eq (part_zero xs _)) (.cons rfl (.cons rfl (.cons rfl (.nil)))), 0, by omega, trivial, rfl⟩ ?_
  rintro m_A _ ⟨k, hk_A, hp_A, rfl⟩
  refine A_seq ?_; refine A_seq ?_; refine A_region ?_; refine M0 (q_moveC rfl rfl rfl) rfl rfl ?_; refine M0 (q_moveC rfl rfl rfl) rfl rfl ?_; refine M0 (q_len rfl rfl rfl) rfl rfl ?_
  refine M0 (q_lss rfl rfl rfl rfl) rfl rfl ?_; refine L_nil ?_; refine T_n ?_
  refine A_cond rfl (fun h => ?_) (fun h => ?_)
  · have h3 : k < xs.length := by have := of_decide_eq_true h; omega
    have hat := els_at h3
    have hz := part_at xs [(.v (.string ⟨#[]⟩))] h3
    have hpl : (k : Int) < (part xs [(.v (.string ⟨#[]⟩))] k).length := by rw [part_len xs _ (by omega)]; omega
    have hwt : Enc.wt xs[k] ≤ wts xs := wts_le xs _ (List.getElem_mem h3)
    refine A_skip ?_; refine T_n ?_; refine A_seq ?_; refine A_block ?_; refine A_region ?_; refine M0 (q_moveC rfl rfl rfl) rfl rfl ?_; refine M0 (q_moveC rfl rfl rfl) rfl rfl ?_
    refine M0 (q_moveC rfl rfl rfl) rfl rfl ?_; refine M0 (q_moveC rfl rfl rfl) rfl rfl ?_; refine M0 (q_at rfl rfl rfl rfl (by omega) (by assumption) rfl) rfl rfl ?_
    refine M0 (q_lr1 rfl rfl rfl rfl) rfl rfl ?_; refine M0 (q_ar rfl rfl rfl rfl rfl (by omega) (by assumption)) rfl rfl ?_
    refine M_ste1 rfl rfl rfl rfl rfl rfl rfl rfl rfl (by assumption) rfl rfl ?_; refine L_nil ?_; refine B_n ?_; refine T_n ?_; refine A_region ?_; refine M0 (q_moveC rfl rfl rfl) rfl rfl ?_
    refine M0 (q_add rfl rfl rfl rfl (by omega)) rfl rfl ?_; refine M0 (q_assignC rfl rfl rfl) rfl rfl ?_; refine L_nil ?_; refine T_n ?_
    exact ⟨xs.length - (k + 1), by omega, (fun k : Nat => (⟨_, [(0, L xs), (3, .o (.c (.ref 0))), (4, I k)], [.row 1 (part xs [(.v (.string ⟨#[]⟩))] k)]⟩ : St)) (k + 1), W_go [0] (by decide) rfl (row_eq (part_set xs [(.v (.string ⟨#[]⟩))] h3 _ (by rfl) (by rfl)).symm) (.cons rfl (.cons rfl (.cons rfl (.nil)))), k + 1, by omega, trivial, rfl⟩
  · have h3 : ¬ ((k : Int) < (els xs).length) := of_decide_eq_false h
    refine A_exit ?_; refine T_x ?_; refine T_x ?_; refine B_xs ?_; refine T_n ?_; refine A_seq ?_; refine A_region ?_; refine M0 (q_moveC rfl rfl rfl) rfl rfl ?_
    refine M0 (q_assignC rfl rfl rfl) rfl rfl ?_; refine L_nil ?_; refine T_n ?_; refine A_ret ?_; refine F_r ?_
    exact E_tmp rfl rfl (W_end [0] (by decide) rfl (row_eq (part_all xs _ (by omega)).symm) rfl)

/-! ### Comparing -/
set_option maxHeartbeats 1000000 in
theorem eq_IntS (xs ys : List Int) (hn : Enc.gd xs) : Con Tryd.prog 46 [] [al xs, al ys] [] (B (decide (xs = ys))) := by
  have hn1 := hn.1
  have hlx := els_len xs
  have hly := els_len ys
  by_cases hl : xs.length = ys.length
  · have hb : decide (((els xs).length : Int) ≠ ((els ys).length : Int)) = false := by rw [hlx, hly, hl]; simp
    refine Con.of Tryd.func46 rfl Tryd.ntmps46 rfl (fun E => ?_)
    refine A_seq ?_; refine A_region ?_; refine M0 (q_assignC rfl rfl rfl) rfl rfl ?_; refine L_nil ?_; refine T_n ?_; refine A_seq ?_; refine A_seq ?_; refine A_region ?_
    refine M0 (q_moveC rfl rfl rfl) rfl rfl ?_; refine M0 (q_len rfl rfl rfl) rfl rfl ?_; refine M0 (q_moveC rfl rfl rfl) rfl rfl ?_; refine M0 (q_len rfl rfl rfl) rfl rfl ?_
    refine M0 (q_neqK rfl rfl rfl rfl (by assumption)) rfl rfl ?_; refine L_nil ?_; refine T_n ?_; refine A_ifF rfl ?_; refine A_skip ?_; refine T_n ?_; refine A_seq ?_; refine A_seq ?_
    refine A_region ?_; refine M0 (q_assignC rfl rfl rfl) rfl rfl ?_; refine L_nil ?_; refine T_n ?_; refine A_block ?_
    refine A_loop (fun m st => ∃ k : Nat, k + m = xs.length ∧ (xs.take k = ys.take k) ∧ st = (fun k : Nat => (⟨_, [(0, L xs), (1, L ys), (5, I k)], []⟩ : St)) k) (xs.length) ⟨(fun k : Nat => (⟨_, [(0, L xs), (1, L ys), (5, I k)], []⟩ : St)) 0, W_go [] (by decide) rfl (rfl) (.cons rfl (.cons rfl (.cons rfl (.nil)))), 0, by omega, by simp, rfl⟩ ?_
    rintro m_A _ ⟨k, hk_A, hp_A, rfl⟩
    refine A_seq ?_; refine A_seq ?_; refine A_region ?_; refine M0 (q_moveC rfl rfl rfl) rfl rfl ?_; refine M0 (q_moveC rfl rfl rfl) rfl rfl ?_; refine M0 (q_len rfl rfl rfl) rfl rfl ?_
    refine M0 (q_lss rfl rfl rfl rfl) rfl rfl ?_; refine L_nil ?_; refine T_n ?_
    refine A_cond rfl (fun h => ?_) (fun h => ?_)
    · have h3 : k < xs.length := by have := of_decide_eq_true h; omega
      have h4 : k < ys.length := by omega
      have hat := els_at h3
      have hat2 := els_at h4
      by_cases he : xs[k] = ys[k]
      · have hk : decide (xs[k] ≠ ys[k]) = false := by simp [he]
        refine A_skip ?_; refine T_n ?_; refine A_seq ?_; refine A_block ?_; refine A_seq ?_
        refine A_draw [[], [], [0, 1], [0, 1, 2], [], [], [4, 5], [4, 5, 6], [0, 1, 2, 3, 4, 5, 6, 7]] [[], [], [17, 18], [17, 18, 19], [], [], [21, 22], [21, 22, 23], [17, 18, 19, 20, 21, 22, 23, 24]] [[18, 21, 22, 23, 24], [17, 21, 22, 23, 24], [21, 22, 23, 24], [21, 22, 23, 24], [17, 18, 19, 20, 22], [17, 18, 19, 20, 21], [17, 18, 19, 20], [17, 18, 19, 20], []] rfl ?_
        refine DR.step (q_moveC rfl rfl rfl) rfl rfl ?_; refine DR.step (q_moveC rfl rfl rfl) rfl rfl ?_; refine DR.step (q_at rfl rfl rfl rfl (by omega) (by assumption) rfl) rfl rfl ?_
        refine DR.step (q_lr1 rfl rfl rfl rfl) rfl rfl ?_; refine DR.step (q_moveC rfl rfl rfl) rfl rfl ?_; refine DR.step (q_moveC rfl rfl rfl) rfl rfl ?_
        refine DR.step (q_at rfl rfl rfl rfl (by omega) (by assumption) rfl) rfl rfl ?_; refine DR.step (q_lr1 rfl rfl rfl rfl) rfl rfl ?_
        refine DR.step (q_neqK rfl rfl rfl rfl (by assumption)) rfl rfl ?_; refine DR.stop (by kernel_rfl) (by kernel_rfl) ?_
        refine L_nil ?_; refine T_n ?_; refine A_ifF rfl ?_; refine A_skip ?_; refine B_n ?_; refine T_n ?_; refine A_region ?_; refine M0 (q_moveC rfl rfl rfl) rfl rfl ?_
        refine M0 (q_add rfl rfl rfl rfl (by omega)) rfl rfl ?_; refine M0 (q_assignC rfl rfl rfl) rfl rfl ?_; refine L_nil ?_; refine T_n ?_
        exact ⟨xs.length - (k + 1), by omega, (fun k : Nat => (⟨_, [(0, L xs), (1, L ys), (5, I k)], []⟩ : St)) (k + 1), W_go [] (by decide) rfl (rfl) (.cons rfl (.cons rfl (.cons rfl (.nil)))), k + 1, by omega, eq_next h3 h4 hp_A he, rfl⟩
      · have hk : decide (xs[k] ≠ ys[k]) = true := by simp [he]
        refine A_skip ?_; refine T_n ?_; refine A_seq ?_; refine A_block ?_; refine A_seq ?_
        refine A_draw [[], [], [0, 1], [0, 1, 2], [], [], [4, 5], [4, 5, 6], [0, 1, 2, 3, 4, 5, 6, 7]] [[], [], [17, 18], [17, 18, 19], [], [], [21, 22], [21, 22, 23], [17, 18, 19, 20, 21, 22, 23, 24]] [[18, 21, 22, 23, 24], [17, 21, 22, 23, 24], [21, 22, 23, 24], [21, 22, 23, 24], [17, 18, 19, 20, 22], [17, 18, 19, 20, 21], [17, 18, 19, 20], [17, 18, 19, 20], []] rfl ?_
        refine DR.step (q_moveC rfl rfl rfl) rfl rfl ?_; refine DR.step (q_moveC rfl rfl rfl) rfl rfl ?_; refine DR.step (q_at rfl rfl rfl rfl (by omega) (by assumption) rfl) rfl rfl ?_
        refine DR.step (q_lr1 rfl rfl rfl rfl) rfl rfl ?_; refine DR.step (q_moveC rfl rfl rfl) rfl rfl ?_; refine DR.step (q_moveC rfl rfl rfl) rfl rfl ?_
        refine DR.step (q_at rfl rfl rfl rfl (by omega) (by assumption) rfl) rfl rfl ?_; refine DR.step (q_lr1 rfl rfl rfl rfl) rfl rfl ?_
        refine DR.step (q_neqK rfl rfl rfl rfl (by assumption)) rfl rfl ?_; refine DR.stop (by kernel_rfl) (by kernel_rfl) ?_
        refine L_nil ?_; refine T_n ?_; refine A_ifT rfl ?_; refine A_seq ?_; refine A_region ?_; refine M0 (q_assignC rfl rfl rfl) rfl rfl ?_; refine L_nil ?_; refine T_n ?_; refine A_ret ?_; refine B_r ?_
        refine T_r ?_; refine T_r ?_; refine B_r ?_; refine T_r ?_; refine F_r ?_
        exact E_tmp rfl rfl (W_end [] (by decide) rfl rfl (B_eq (eq_ne h3 h4 he).symm))
    · have h3 : ¬ ((k : Int) < (els xs).length) := of_decide_eq_false h
      refine A_exit ?_; refine T_x ?_; refine T_x ?_; refine B_xs ?_; refine T_n ?_; refine A_seq ?_; refine A_region ?_; refine M0 (q_assignC rfl rfl rfl) rfl rfl ?_; refine L_nil ?_; refine T_n ?_
      refine A_ret ?_; refine F_r ?_
      exact E_tmp rfl rfl (W_end [] (by decide) rfl rfl (B_eq (eq_all (by omega) hl hp_A).symm))
  · have hb : decide (((els xs).length : Int) ≠ ((els ys).length : Int)) = true := by rw [hlx, hly]; simp; omega
    refine Con.of Tryd.func46 rfl Tryd.ntmps46 rfl (fun E => ?_)
    refine A_seq ?_; refine A_region ?_; refine M0 (q_assignC rfl rfl rfl) rfl rfl ?_; refine L_nil ?_; refine T_n ?_; refine A_seq ?_; refine A_seq ?_; refine A_region ?_
    refine M0 (q_moveC rfl rfl rfl) rfl rfl ?_; refine M0 (q_len rfl rfl rfl) rfl rfl ?_; refine M0 (q_moveC rfl rfl rfl) rfl rfl ?_; refine M0 (q_len rfl rfl rfl) rfl rfl ?_
    refine M0 (q_neqK rfl rfl rfl rfl (by assumption)) rfl rfl ?_; refine L_nil ?_; refine T_n ?_; refine A_ifT rfl ?_; refine A_seq ?_; refine A_region ?_
    refine M0 (q_assignC rfl rfl rfl) rfl rfl ?_; refine L_nil ?_; refine T_n ?_; refine A_ret ?_; refine T_r ?_; refine F_r ?_
    exact E_tmp rfl rfl (W_end [] (by decide) rfl rfl (B_eq (eq_len hl).symm))
set_option maxHeartbeats 1000000 in
theorem eq_StringS (xs ys : List ByteArray) (hn : Enc.gd xs) : Con Tryd.prog 17 [] [al xs, al ys] [] (B (decide (xs = ys))) := by
  have hn1 := hn.1
  have hlx := els_len xs
  have hly := els_len ys
  by_cases hl : xs.length = ys.length
  · have hb : decide (((els xs).length : Int) ≠ ((els ys).length : Int)) = false := by rw [hlx, hly, hl]; simp
    refine Con.of Tryd.func17 rfl Tryd.ntmps17 rfl (fun E => ?_)
    refine A_seq ?_; refine A_region ?_; refine M0 (q_assignC rfl rfl rfl) rfl rfl ?_; refine L_nil ?_; refine T_n ?_; refine A_seq ?_; refine A_seq ?_; refine A_region ?_
    refine M0 (q_moveC rfl rfl rfl) rfl rfl ?_; refine M0 (q_len rfl rfl rfl) rfl rfl ?_; refine M0 (q_moveC rfl rfl rfl) rfl rfl ?_; refine M0 (q_len rfl rfl rfl) rfl rfl ?_
    refine M0 (q_neqK rfl rfl rfl rfl (by assumption)) rfl rfl ?_; refine L_nil ?_; refine T_n ?_; refine A_ifF rfl ?_; refine A_skip ?_; refine T_n ?_; refine A_seq ?_; refine A_seq ?_
    refine A_region ?_; refine M0 (q_assignC rfl rfl rfl) rfl rfl ?_; refine L_nil ?_; refine T_n ?_; refine A_block ?_
    refine A_loop (fun m st => ∃ k : Nat, k + m = xs.length ∧ (xs.take k = ys.take k) ∧ st = (fun k : Nat => (⟨_, [(0, L xs), (1, L ys), (5, I k)], []⟩ : St)) k) (xs.length) ⟨(fun k : Nat => (⟨_, [(0, L xs), (1, L ys), (5, I k)], []⟩ : St)) 0, W_go [] (by decide) rfl (rfl) (.cons rfl (.cons rfl (.cons rfl (.nil)))), 0, by omega, by simp, rfl⟩ ?_
    rintro m_A _ ⟨k, hk_A, hp_A, rfl⟩
    refine A_seq ?_; refine A_seq ?_; refine A_region ?_; refine M0 (q_moveC rfl rfl rfl) rfl rfl ?_; refine M0 (q_moveC rfl rfl rfl) rfl rfl ?_; refine M0 (q_len rfl rfl rfl) rfl rfl ?_
    refine M0 (q_lss rfl rfl rfl rfl) rfl rfl ?_; refine L_nil ?_; refine T_n ?_
    refine A_cond rfl (fun h => ?_) (fun h => ?_)
    · have h3 : k < xs.length := by have := of_decide_eq_true h; omega
      have h4 : k < ys.length := by omega
      have hat := els_at h3
      have hat2 := els_at h4
      by_cases he : xs[k] = ys[k]
      · have hk : decide (xs[k] ≠ ys[k]) = false := by simp [he]
        refine A_skip ?_; refine T_n ?_; refine A_seq ?_; refine A_block ?_; refine A_seq ?_
        refine A_draw [[], [], [0, 1], [0, 1, 2], [], [], [4, 5], [4, 5, 6], [0, 1, 2, 3, 4, 5, 6, 7]] [[], [], [17, 18], [17, 18, 19], [], [], [21, 22], [21, 22, 23], [17, 18, 19, 20, 21, 22, 23, 24]] [[18, 21, 22, 23, 24], [17, 21, 22, 23, 24], [21, 22, 23, 24], [21, 22, 23, 24], [17, 18, 19, 20, 22], [17, 18, 19, 20, 21], [17, 18, 19, 20], [17, 18, 19, 20], []] rfl ?_
        refine DR.step (q_moveC rfl rfl rfl) rfl rfl ?_; refine DR.step (q_moveC rfl rfl rfl) rfl rfl ?_; refine DR.step (q_at rfl rfl rfl rfl (by omega) (by assumption) rfl) rfl rfl ?_
        refine DR.step (q_lr1 rfl rfl rfl rfl) rfl rfl ?_; refine DR.step (q_moveC rfl rfl rfl) rfl rfl ?_; refine DR.step (q_moveC rfl rfl rfl) rfl rfl ?_
        refine DR.step (q_at rfl rfl rfl rfl (by omega) (by assumption) rfl) rfl rfl ?_; refine DR.step (q_lr1 rfl rfl rfl rfl) rfl rfl ?_
        refine DR.step (q_sneqK rfl rfl rfl rfl (by assumption)) rfl rfl ?_; refine DR.stop (by kernel_rfl) (by kernel_rfl) ?_
        refine L_nil ?_; refine T_n ?_; refine A_ifF rfl ?_; refine A_skip ?_; refine B_n ?_; refine T_n ?_; refine A_region ?_; refine M0 (q_moveC rfl rfl rfl) rfl rfl ?_
        refine M0 (q_add rfl rfl rfl rfl (by omega)) rfl rfl ?_; refine M0 (q_assignC rfl rfl rfl) rfl rfl ?_; refine L_nil ?_; refine T_n ?_
        exact ⟨xs.length - (k + 1), by omega, (fun k : Nat => (⟨_, [(0, L xs), (1, L ys), (5, I k)], []⟩ : St)) (k + 1), W_go [] (by decide) rfl (rfl) (.cons rfl (.cons rfl (.cons rfl (.nil)))), k + 1, by omega, eq_next h3 h4 hp_A he, rfl⟩
      · have hk : decide (xs[k] ≠ ys[k]) = true := by simp [he]
        refine A_skip ?_; refine T_n ?_; refine A_seq ?_; refine A_block ?_; refine A_seq ?_
        refine A_draw [[], [], [0, 1], [0, 1, 2], [], [], [4, 5], [4, 5, 6], [0, 1, 2, 3, 4, 5, 6, 7]] [[], [], [17, 18], [17, 18, 19], [], [], [21, 22], [21, 22, 23], [17, 18, 19, 20, 21, 22, 23, 24]] [[18, 21, 22, 23, 24], [17, 21, 22, 23, 24], [21, 22, 23, 24], [21, 22, 23, 24], [17, 18, 19, 20, 22], [17, 18, 19, 20, 21], [17, 18, 19, 20], [17, 18, 19, 20], []] rfl ?_
        refine DR.step (q_moveC rfl rfl rfl) rfl rfl ?_; refine DR.step (q_moveC rfl rfl rfl) rfl rfl ?_; refine DR.step (q_at rfl rfl rfl rfl (by omega) (by assumption) rfl) rfl rfl ?_
        refine DR.step (q_lr1 rfl rfl rfl rfl) rfl rfl ?_; refine DR.step (q_moveC rfl rfl rfl) rfl rfl ?_; refine DR.step (q_moveC rfl rfl rfl) rfl rfl ?_
        refine DR.step (q_at rfl rfl rfl rfl (by omega) (by assumption) rfl) rfl rfl ?_; refine DR.step (q_lr1 rfl rfl rfl rfl) rfl rfl ?_
        refine DR.step (q_sneqK rfl rfl rfl rfl (by assumption)) rfl rfl ?_; refine DR.stop (by kernel_rfl) (by kernel_rfl) ?_
        refine L_nil ?_; refine T_n ?_; refine A_ifT rfl ?_; refine A_seq ?_; refine A_region ?_; refine M0 (q_assignC rfl rfl rfl) rfl rfl ?_; refine L_nil ?_; refine T_n ?_; refine A_ret ?_; refine B_r ?_
        refine T_r ?_; refine T_r ?_; refine B_r ?_; refine T_r ?_; refine F_r ?_
        exact E_tmp rfl rfl (W_end [] (by decide) rfl rfl (B_eq (eq_ne h3 h4 he).symm))
    · have h3 : ¬ ((k : Int) < (els xs).length) := of_decide_eq_false h
      refine A_exit ?_; refine T_x ?_; refine T_x ?_; refine B_xs ?_; refine T_n ?_; refine A_seq ?_; refine A_region ?_; refine M0 (q_assignC rfl rfl rfl) rfl rfl ?_; refine L_nil ?_; refine T_n ?_
      refine A_ret ?_; refine F_r ?_
      exact E_tmp rfl rfl (W_end [] (by decide) rfl rfl (B_eq (eq_all (by omega) hl hp_A).symm))
  · have hb : decide (((els xs).length : Int) ≠ ((els ys).length : Int)) = true := by rw [hlx, hly]; simp; omega
    refine Con.of Tryd.func17 rfl Tryd.ntmps17 rfl (fun E => ?_)
    refine A_seq ?_; refine A_region ?_; refine M0 (q_assignC rfl rfl rfl) rfl rfl ?_; refine L_nil ?_; refine T_n ?_; refine A_seq ?_; refine A_seq ?_; refine A_region ?_
    refine M0 (q_moveC rfl rfl rfl) rfl rfl ?_; refine M0 (q_len rfl rfl rfl) rfl rfl ?_; refine M0 (q_moveC rfl rfl rfl) rfl rfl ?_; refine M0 (q_len rfl rfl rfl) rfl rfl ?_
    refine M0 (q_neqK rfl rfl rfl rfl (by assumption)) rfl rfl ?_; refine L_nil ?_; refine T_n ?_; refine A_ifT rfl ?_; refine A_seq ?_; refine A_region ?_
    refine M0 (q_assignC rfl rfl rfl) rfl rfl ?_; refine L_nil ?_; refine T_n ?_; refine A_ret ?_; refine T_r ?_; refine F_r ?_
    exact E_tmp rfl rfl (W_end [] (by decide) rfl rfl (B_eq (eq_len hl).symm))
end Go.Proofs.YtkfnaniegldfaaaDoor
end

section
set_option linter.unusedVariables false
set_option linter.unusedSimpArgs false
namespace Go.Proofs.YtkfnaniegldfaaaDoor
open Go.RowKit

/-- Data ass pieces of one's own: the slices, and the cells that name them. -/
def ownO : List T → List Ob
  | [] => []
  | .v _ :: ts => ownO ts
  | .sl k es :: ts => .row k es :: ownO ts
  | .un :: ts => ownO ts
def ownV : Nat → List T → List V1
  | _, [] => []
  | n, .v x :: ts => .rd [] (.v x) :: ownV n ts
  | n, .sl _ _ :: ts => .ref n :: ownV (n + 1) ts
  | n, .un :: ts => .un :: ownV n ts

structure TLevel where
  Rows : (List ByteArray)
  deriving DecidableEq
instance : Enc TLevel := ⟨1, by omega, fun x => [sl x.Rows], fun _ => rfl, fun x => Enc.gd x.Rows, fun x => Enc.wt x.Rows⟩
theorem TLevel.same {x y : TLevel} (h0 : x.Rows = y.Rows) : x = y := by cases x; cases y; simp_all
structure TReplay where
  Level : TLevel
  Players : Int
  Seed : Int
  Every : Int
  Rows : (List (List Int))
  Keys : (List ByteArray)
  deriving DecidableEq
instance : Enc TReplay := ⟨6, by omega, fun x => [sl x.Level.Rows, .v (.int .i64 x.Players), .v (.int .i64 x.Seed), .v (.int .i64 x.Every), sl x.Rows, sl x.Keys], fun _ => rfl, fun x => Enc.gd x.Level ∧ Enc.gd x.Players ∧ Enc.gd x.Seed ∧ Enc.gd x.Every ∧ Enc.gd x.Rows ∧ Enc.gd x.Keys, fun x => Enc.wt x.Level + Enc.wt x.Rows + Enc.wt x.Keys⟩
theorem TReplay.same {x y : TReplay} (h0 : x.Level = y.Level) (h1 : x.Players = y.Players) (h2 : x.Seed = y.Seed) (h3 : x.Every = y.Every) (h4 : x.Rows = y.Rows) (h5 : x.Keys = y.Keys) : x = y := by cases x; cases y; simp_all

set_option maxHeartbeats 2000000 in
theorem sz_Level (x : TLevel) (left : Int) (hg : Enc.gd x) (h0 : 0 ≤ left) (h1 : left ≤ 1048576) : Con Tryd.prog 35 [] [ag x, ai left] [] (I (szr (Enc.wt x) left)) := by
  have g_Rows : Enc.gd x.Rows := hg
  have hw : Enc.wt x = Enc.wt x.Rows := rfl
  have hm1 : decide ((-1 : Int) < 0) = true := rfl
  have hc_Rows := sz_StringS x.Rows (left) g_Rows (by omega) (by omega)
  by_cases n_Rows : left < Enc.wt x.Rows
  · rw [szr_neg n_Rows] at hc_Rows
    refine Con.of Tryd.func35 rfl Tryd.ntmps35 rfl (fun E => ?_)
    refine A_seq ?_; refine A_region ?_; refine M1 (q_boxN rfl rfl rfl rfl) rfl rfl ?_; refine M0 (q_assignC rfl rfl rfl) rfl rfl ?_; refine L_nil ?_; refine T_n ?_; refine A_seq ?_
    refine A_region ?_; refine M0 (q_fldp rfl rfl rfl rfl (by decide)) rfl rfl ?_; refine M0 (q_ld1 rfl rfl rfl rfl rfl) rfl rfl ?_; refine M0 (q_moveC rfl rfl rfl) rfl rfl ?_
    refine M0 (q_call0 rfl rfl (hc_Rows) rfl) rfl rfl ?_; refine M0 (q_assignC rfl rfl rfl) rfl rfl ?_; refine L_nil ?_; refine T_n ?_; refine A_seq ?_; refine A_seq ?_; refine A_region ?_
    refine M0 (q_moveC rfl rfl rfl) rfl rfl ?_; refine M0 (q_lssK rfl rfl rfl rfl (by assumption)) rfl rfl ?_; refine L_nil ?_; refine T_n ?_; refine A_ifT rfl ?_; refine A_seq ?_
    refine A_region ?_; refine M0 (q_assignC rfl rfl rfl) rfl rfl ?_; refine L_nil ?_; refine T_n ?_; refine A_ret ?_; refine T_r ?_; refine F_r ?_
    exact E_tmp rfl rfl (W_end [] (by decide) rfl rfl (I_eq (by rw [szr_neg (by omega)])))
  rw [szr_pos (by omega)] at hc_Rows
  have hb_Rows : decide (left - Enc.wt x.Rows < 0) = false := decide_eq_false (by omega)
  refine Con.of Tryd.func35 rfl Tryd.ntmps35 rfl (fun E => ?_)
  refine A_seq ?_; refine A_region ?_; refine M1 (q_boxN rfl rfl rfl rfl) rfl rfl ?_; refine M0 (q_assignC rfl rfl rfl) rfl rfl ?_; refine L_nil ?_; refine T_n ?_; refine A_seq ?_
  refine A_region ?_; refine M0 (q_fldp rfl rfl rfl rfl (by decide)) rfl rfl ?_; refine M0 (q_ld1 rfl rfl rfl rfl rfl) rfl rfl ?_; refine M0 (q_moveC rfl rfl rfl) rfl rfl ?_
  refine M0 (q_call0 rfl rfl (hc_Rows) rfl) rfl rfl ?_; refine M0 (q_assignC rfl rfl rfl) rfl rfl ?_; refine L_nil ?_; refine T_n ?_; refine A_seq ?_; refine A_seq ?_; refine A_region ?_
  refine M0 (q_moveC rfl rfl rfl) rfl rfl ?_; refine M0 (q_lssK rfl rfl rfl rfl (by assumption)) rfl rfl ?_; refine L_nil ?_; refine T_n ?_; refine A_ifF rfl ?_; refine A_skip ?_; refine T_n ?_
  refine A_seq ?_; refine A_region ?_; refine M0 (q_moveC rfl rfl rfl) rfl rfl ?_; refine M0 (q_assignC rfl rfl rfl) rfl rfl ?_; refine L_nil ?_; refine T_n ?_; refine A_ret ?_; refine F_r ?_
  exact E_tmp rfl rfl (W_end [] (by decide) rfl rfl (I_eq (by rw [szr_pos (by omega)]; omega)))
set_option maxHeartbeats 2000000 in
theorem to_Level (x : TLevel) (hg : Enc.wt x ≤ 1048576) : Con Tryd.prog 40 [] [ag x] (ownO (Enc.e x)) (.o (.ag (ownV 0 (Enc.e x)))) := by
  have hw : Enc.wt x = Enc.wt x.Rows := rfl
  refine Con.of Tryd.func40 rfl Tryd.ntmps40 rfl (fun E => ?_)
  refine A_seq ?_; refine A_region ?_; refine M1 (q_boxN rfl rfl rfl rfl) rfl rfl ?_; refine M1 (q_alloc rfl rfl rfl) rfl rfl ?_; refine L_nil ?_; refine T_n ?_; refine A_seq ?_
  refine A_region ?_; refine M1 (q_alloc rfl rfl rfl) rfl rfl ?_; refine L_nil ?_; refine T_n ?_; refine A_seq ?_; refine A_region ?_; refine M0 (q_fldp rfl rfl rfl rfl (by decide)) rfl rfl ?_
  refine M0 (q_ld1 rfl rfl rfl rfl rfl) rfl rfl ?_; refine M1 (q_call rfl rfl (to_StringS x.Rows (by omega)) rfl rfl rfl) rfl rfl ?_
  refine M0 (q_fldp rfl rfl rfl rfl (by decide)) rfl rfl ?_; refine M_st1 rfl rfl rfl rfl rfl rfl rfl rfl ?_; refine L_nil ?_; refine T_n ?_; refine A_seq ?_; refine A_region ?_
  refine M0 (q_ldN rfl rfl rfl rfl rfl rfl) rfl rfl ?_; refine M_stN rfl rfl rfl rfl rfl rfl rfl rfl rfl ?_; refine L_nil ?_; refine T_n ?_; refine A_ret ?_; refine F_r ?_
  exact E_cell rfl rfl rfl rfl (W_end [3] (by decide) rfl rfl rfl)
set_option maxHeartbeats 2000000 in
theorem eq_Level (x y : TLevel) (hg : Enc.gd x) : Con Tryd.prog 45 [] [ag x, ag y] [] (B (decide (x = y))) := by
  have g_Rows : Enc.gd x.Rows := hg
  by_cases e_Rows : ¬ x.Rows = y.Rows
  · have hc := eq_StringS x.Rows y.Rows g_Rows
    rw [decide_eq_false e_Rows] at hc
    refine Con.of Tryd.func45 rfl Tryd.ntmps45 rfl (fun E => ?_)
    refine A_seq ?_; refine A_region ?_; refine M1 (q_boxN rfl rfl rfl rfl) rfl rfl ?_; refine M1 (q_boxN rfl rfl rfl rfl) rfl rfl ?_; refine M0 (q_assignC rfl rfl rfl) rfl rfl ?_
    refine L_nil ?_; refine T_n ?_; refine A_seq ?_; refine A_seq ?_; refine A_region ?_; refine M0 (q_fldp rfl rfl rfl rfl (by decide)) rfl rfl ?_
    refine M0 (q_ld1 rfl rfl rfl rfl rfl) rfl rfl ?_; refine M0 (q_fldp rfl rfl rfl rfl (by decide)) rfl rfl ?_; refine M0 (q_ld1 rfl rfl rfl rfl rfl) rfl rfl ?_
    refine M0 (q_call0 rfl rfl (hc) rfl) rfl rfl ?_; refine M0 (q_not rfl rfl rfl) rfl rfl ?_; refine L_nil ?_; refine T_n ?_; refine A_ifT rfl ?_; refine A_seq ?_; refine A_region ?_
    refine M0 (q_assignC rfl rfl rfl) rfl rfl ?_; refine L_nil ?_; refine T_n ?_; refine A_ret ?_; refine T_r ?_; refine F_r ?_
    exact E_tmp rfl rfl (W_end [] (by decide) rfl rfl (B_eq (decide_eq_false fun e => e_Rows (by rw [e])).symm))
  have e_Rows := Classical.not_not.1 e_Rows
  have hc_Rows := eq_StringS x.Rows y.Rows g_Rows
  rw [decide_eq_true e_Rows] at hc_Rows
  refine Con.of Tryd.func45 rfl Tryd.ntmps45 rfl (fun E => ?_)
  refine A_seq ?_; refine A_region ?_; refine M1 (q_boxN rfl rfl rfl rfl) rfl rfl ?_; refine M1 (q_boxN rfl rfl rfl rfl) rfl rfl ?_; refine M0 (q_assignC rfl rfl rfl) rfl rfl ?_
  refine L_nil ?_; refine T_n ?_; refine A_seq ?_; refine A_seq ?_; refine A_region ?_; refine M0 (q_fldp rfl rfl rfl rfl (by decide)) rfl rfl ?_
  refine M0 (q_ld1 rfl rfl rfl rfl rfl) rfl rfl ?_; refine M0 (q_fldp rfl rfl rfl rfl (by decide)) rfl rfl ?_; refine M0 (q_ld1 rfl rfl rfl rfl rfl) rfl rfl ?_
  refine M0 (q_call0 rfl rfl (hc_Rows) rfl) rfl rfl ?_; refine M0 (q_not rfl rfl rfl) rfl rfl ?_; refine L_nil ?_; refine T_n ?_; refine A_ifF rfl ?_; refine A_skip ?_; refine T_n ?_
  refine A_seq ?_; refine A_region ?_; refine M0 (q_assignC rfl rfl rfl) rfl rfl ?_; refine L_nil ?_; refine T_n ?_; refine A_ret ?_; refine F_r ?_
  exact E_tmp rfl rfl (W_end [] (by decide) rfl rfl (B_eq (decide_eq_true (TLevel.same e_Rows)).symm))
end Go.Proofs.YtkfnaniegldfaaaDoor
end

section
set_option linter.unusedVariables false
namespace Go.Proofs.YtkfnaniegldfaaaDoor
open Go.RowKit

/-- A contract of the library's that writes to new memory alone. -/
theorem Con.kit {P : Program} {f : FuncId} {args : List V2} {x : Value} (hx : x.oneCell' = true)
    (h : ∀ (w : World) (H : Hs) (F : Nat → Prop) (vs : List Value), Ok w H F → (∀ p, H p = .nil) → vs.length = args.length → (∀ (i : Nat) (x : V2) (v : Value), args[i]? = some x → vs[i]? = some v → R2 w H F x v) → Calls P f vs.toArray w fun e w' => e = .returned x ∧ Below w.heap.size w w') :
    Con P f [] args [] (.o (.c (.rd [] (.v x)))) := by
  intro w H F vs hok hob hlen hargs
  have hnil : ∀ p, H p = .nil := fun p => by simpa [RB] using hob p
  refine (h w H F vs hok hnil hlen hargs).mono ?_
  rintro e w' ⟨rfl, hb⟩
  refine ⟨H, F, x, rfl, ⟨hb.os, hb.tape, hb.output, hb.size, fun b h1 _ => hb.block b h1, fun _ h => h, fun _ h => .inl h, fun p b hb => .inl ⟨p, hb⟩, fun p i v h => ⟨p, h⟩⟩, ⟨fun p => ?_, hok.nodup, hok.disj, hok.free, fun b h => Nat.lt_of_lt_of_le (hok.flt b h) hb.size⟩, fun p => ?_, RO.v _ hx⟩
  · rw [hnil p]; trivial
  · show RB w' H F p .gone
    exact hnil p
end Go.Proofs.YtkfnaniegldfaaaDoor
end

section
set_option linter.unusedSimpArgs false
set_option linter.unusedVariables false
namespace Go.Proofs.YtkfnaniegldfaaaDoor
open Go.RowKit

def inR (n lo hi : Int) : Bool := decide (lo ≤ n) && decide (n ≤ hi)
theorem inR_iff {n lo hi : Int} : inR n lo hi = true ↔ lo ≤ n ∧ n ≤ hi := by simp [inR]
set_option maxHeartbeats 8000000 in
theorem I_between (n lo hi : Int) : Con Tryd.prog 70 [] [ai n, ai lo, ai hi] [] (B (inR n lo hi)) := by
  refine Con.of Tryd.func70 rfl Tryd.ntmps70 rfl (fun E => ?_)
  refine A_seq ?_; refine A_region ?_; refine M0 (q_assignC rfl rfl rfl) rfl rfl ?_; refine L_nil ?_; refine T_n ?_; refine A_seq ?_; refine A_region ?_; refine M0 (q_moveC rfl rfl rfl) rfl rfl ?_
  refine M0 (q_moveC rfl rfl rfl) rfl rfl ?_; refine M0 (q_geq rfl rfl rfl rfl) rfl rfl ?_; refine M0 (q_moveC rfl rfl rfl) rfl rfl ?_
  refine M0 (Qt.grdT rfl rfl rfl .stop (fun hgrd => q_moveC rfl rfl rfl)) rfl rfl ?_; refine M0 (Qt.grdT rfl rfl rfl (.hit .stop) (fun hgrd => q_moveC rfl rfl rfl)) rfl rfl ?_
  refine M0 (Qt.grdT rfl rfl rfl (.hit (.hit .stop)) (fun hgrd => q_leq rfl rfl rfl rfl)) rfl rfl ?_; refine M0 (q_and rfl rfl rfl rfl) rfl rfl ?_
  refine M0 (q_assignC rfl rfl rfl) rfl rfl ?_; refine L_nil ?_; refine T_n ?_; refine A_ret ?_; refine F_r ?_
  exact E_tmp rfl rfl (W_end [] (by decide) rfl rfl rfl)
set_option maxHeartbeats 8000000 in
theorem S_in (n lo hi : Int) : Con Tryd.prog 63 [] [ai n, ai lo, ai hi] [] (B (inR n lo hi)) := by
  refine Con.of Tryd.func63 rfl Tryd.ntmps63 rfl (fun E => ?_)
  refine A_seq ?_; refine A_region ?_; refine M0 (q_assignC rfl rfl rfl) rfl rfl ?_; refine L_nil ?_; refine T_n ?_; refine A_seq ?_; refine A_region ?_; refine M0 (q_moveC rfl rfl rfl) rfl rfl ?_
  refine M0 (q_moveC rfl rfl rfl) rfl rfl ?_; refine M0 (q_geq rfl rfl rfl rfl) rfl rfl ?_; refine M0 (q_moveC rfl rfl rfl) rfl rfl ?_
  refine M0 (Qt.grdT rfl rfl rfl .stop (fun hgrd => q_moveC rfl rfl rfl)) rfl rfl ?_; refine M0 (Qt.grdT rfl rfl rfl (.hit .stop) (fun hgrd => q_moveC rfl rfl rfl)) rfl rfl ?_
  refine M0 (Qt.grdT rfl rfl rfl (.hit (.hit .stop)) (fun hgrd => q_leq rfl rfl rfl rfl)) rfl rfl ?_; refine M0 (q_and rfl rfl rfl rfl) rfl rfl ?_
  refine M0 (q_assignC rfl rfl rfl) rfl rfl ?_; refine L_nil ?_; refine T_n ?_; refine A_ret ?_; refine F_r ?_
  exact E_tmp rfl rfl (W_end [] (by decide) rfl rfl rfl)

section
variable {α : Type} {p : α → Bool} {xs : List α} {k : Nat}
theorem all_next (h : (xs.take k).all p = true) (hk : k < xs.length) (hp : p xs[k] = true) : (xs.take (k + 1)).all p = true := by
  rw [List.take_succ_eq_append_getElem hk, List.all_append, h]
  simp [hp]
theorem all_end (h : (xs.take k).all p = true) (hk : xs.length ≤ k) : xs.all p = true := by rwa [List.take_of_length_le hk] at h
end
end Go.Proofs.YtkfnaniegldfaaaDoor
end

section
set_option linter.unusedSimpArgs false
set_option linter.unusedVariables false
set_option maxRecDepth 8000
namespace Go.Proofs.YtkfnaniegldfaaaDoor
open Go.RowKit

def fmtN (k : Nat) : ByteArray := bs (Lib.decDigits k)
def decG (m : Nat) : List UInt8 := if m = 0 then [] else Lib.decDigits m
theorem decG_step {m : Nat} (h : m ≠ 0) : decG m = decG (m / 10) ++ [UInt8.ofNat (48 + m % 10)] := by
  rw [decG, if_neg h]
  by_cases h1 : m < 10
  · rw [Lib.decDigits_one h1, decG, if_pos (by omega), Nat.mod_eq_of_lt h1]; rfl
  · rw [Lib.decDigits, dif_neg h1, decG, if_neg (by omega)]
theorem dec_len (m : Nat) : (Lib.decDigits m).length ≤ m + 1 := by
  induction m using Nat.strongRecOn with
  | ind m ih =>
    by_cases h : m < 10
    · rw [Lib.decDigits_one h]; simp
    · rw [Lib.decDigits, dif_neg h, List.length_append]
      have := ih (m / 10) (by omega)
      simp only [List.length_cons, List.length_nil]
      omega
theorem fmtN_size (k : Nat) : (fmtN k).size ≤ k + 1 := by rw [fmtN, bs_size]; exact dec_len k
theorem I_Itoa (k : Nat) (h : k < 100) : Con Tryd.prog 87 [] [ai k] [] (S (fmtN k)) := by
  refine Con.kit rfl fun w H F vs hok hnil hlen hargs => ?_
  match vs, hlen with
  | [v], _ =>
    obtain ⟨rfl, _⟩ : v = .int .i64 k ∧ _ := RO.plain (hargs 0 _ v rfl rfl)
    exact (Tryd.strconv_Itoa_small k h w).mono fun e w' ⟨he, hw⟩ => ⟨he, hw ▸ Below.refl _ _⟩
set_option maxHeartbeats 8000000 in
theorem I_FormatInt (k : Nat) (h : k < 100) : Con Tryd.prog 44 [] [ai k] [] (S (fmtN k)) := by
  have hc := I_Itoa k h
  refine Con.of Tryd.func44 rfl Tryd.ntmps44 rfl (fun E => ?_)
  refine A_seq ?_; refine A_region ?_; refine M0 (q_assignC rfl rfl rfl) rfl rfl ?_; refine L_nil ?_; refine T_n ?_; refine A_seq ?_; refine A_region ?_; refine M0 (q_moveC rfl rfl rfl) rfl rfl ?_
  refine M0 (q_call0 rfl rfl (hc) rfl) rfl rfl ?_; refine M0 (q_assignC rfl rfl rfl) rfl rfl ?_; refine L_nil ?_; refine T_n ?_; refine A_ret ?_; refine F_r ?_
  exact E_tmp rfl rfl (W_end [] (by decide) rfl rfl rfl)
set_option maxHeartbeats 8000000 in
theorem S_l01Figure (d : Int) (h0 : 0 ≤ d) (h : d < 10) : Con Tryd.prog 82 [] [ai d] [] (VI .u8 (48 + d)) := by
  have hb : decide (d < 10) = true := decide_eq_true h
  refine Con.of Tryd.func82 rfl Tryd.ntmps82 rfl (fun E => ?_)
  refine A_seq ?_; refine A_region ?_; refine M0 (q_assignC rfl rfl rfl) rfl rfl ?_; refine L_nil ?_; refine T_n ?_; refine A_seq ?_; refine A_seq ?_; refine A_region ?_
  refine M0 (q_moveC rfl rfl rfl) rfl rfl ?_; refine M0 (q_lssK rfl rfl rfl rfl (by assumption)) rfl rfl ?_; refine L_nil ?_; refine T_n ?_; refine A_ifT rfl ?_; refine A_seq ?_
  refine A_region ?_; refine M0 (q_moveC rfl rfl rfl) rfl rfl ?_; refine M0 (q_add rfl rfl rfl rfl (by omega)) rfl rfl ?_
  refine M0 (q_convI rfl rfl rfl rfl (wrap_u8_in (by omega))) rfl rfl ?_; refine M0 (q_assignC rfl rfl rfl) rfl rfl ?_; refine L_nil ?_; refine T_n ?_; refine A_ret ?_; refine T_r ?_
  refine F_r ?_
  exact E_tmp rfl rfl (W_end [] (by decide) rfl rfl rfl)
set_option maxHeartbeats 8000000 in
theorem S_FormatInt (n : Nat) (hn : n ≤ 1099511627776) : Con Tryd.prog 39 [] [ai n] [] (S (fmtN n)) := by
  by_cases h0 : n = 0
  · subst h0
    have hb0 : decide (((0 : Nat) : Int) = 0) = true := decide_eq_true rfl
    refine Con.of Tryd.func39 rfl Tryd.ntmps39 rfl (fun E => ?_)
    refine A_seq ?_; refine A_region ?_; refine M0 (q_assignC rfl rfl rfl) rfl rfl ?_; refine L_nil ?_; refine T_n ?_; refine A_seq ?_; refine A_seq ?_; refine A_region ?_
    refine M0 (q_moveC rfl rfl rfl) rfl rfl ?_; refine M0 (q_eqlK rfl rfl rfl rfl (by assumption)) rfl rfl ?_; refine L_nil ?_; refine T_n ?_; refine A_ifT rfl ?_; refine A_seq ?_
    refine A_region ?_; refine M0 (q_assignC rfl rfl rfl) rfl rfl ?_; refine L_nil ?_; refine T_n ?_; refine A_ret ?_; refine T_r ?_; refine F_r ?_
    exact E_tmp rfl rfl (W_end [] (by decide) rfl rfl (S_eq (by rw [fmtN, Lib.decDigits_one (by decide)]; rfl)))
  have hb0 : decide ((n : Int) = 0) = false := decide_eq_false (by omega)
  have hb1 : decide ((n : Int) < 0) = false := decide_eq_false (by omega)
  have hdl := dec_len n
  refine Con.of Tryd.func39 rfl Tryd.ntmps39 rfl (fun E => ?_)
  refine A_seq ?_; refine A_region ?_; refine M0 (q_assignC rfl rfl rfl) rfl rfl ?_; refine L_nil ?_; refine T_n ?_; refine A_seq ?_; refine A_seq ?_; refine A_region ?_
  refine M0 (q_moveC rfl rfl rfl) rfl rfl ?_; refine M0 (q_eqlK rfl rfl rfl rfl (by assumption)) rfl rfl ?_; refine L_nil ?_; refine T_n ?_; refine A_ifF rfl ?_; refine A_skip ?_; refine T_n ?_
  refine A_seq ?_; refine A_region ?_; refine M0 (q_moveC rfl rfl rfl) rfl rfl ?_; refine M0 (q_lssK rfl rfl rfl rfl (by assumption)) rfl rfl ?_; refine M0 (q_assignC rfl rfl rfl) rfl rfl ?_
  refine L_nil ?_; refine T_n ?_; refine A_seq ?_; refine A_region ?_; refine M0 (q_assignC rfl rfl rfl) rfl rfl ?_; refine L_nil ?_; refine T_n ?_; refine A_seq ?_; refine A_block ?_
  refine A_loop (fun m__ st => ∃ (m : Nat) (acc : List UInt8), m = m__ ∧ (decG m ++ acc = Lib.decDigits n ∧ m ≤ n) ∧ st = (fun (m : Nat) (acc : List UInt8) => (⟨_, [(0, I m), (3, B false), (4, S (bs acc))], []⟩ : St)) (m) (acc)) ((fun (m : Nat) (acc : List UInt8) => m) (n) ([])) ⟨(fun (m : Nat) (acc : List UInt8) => (⟨_, [(0, I m), (3, B false), (4, S (bs acc))], []⟩ : St)) (n) ([]), W_go [] (by decide) rfl (rfl) (.cons rfl (.cons rfl (.cons rfl (.nil)))), n, [], rfl, ⟨by rw [decG, if_neg h0, List.append_nil], Nat.le_refl _⟩, rfl⟩ ?_
  rintro m_A _ ⟨m, acc, hk_A, hp_A, rfl⟩
  obtain ⟨hp1, hp2⟩ := hp_A
  have hal : acc.length ≤ n + 1 := by rw [← hp1, List.length_append] at hdl; omega
  refine A_seq ?_; refine A_seq ?_; refine A_region ?_; refine M0 (q_moveC rfl rfl rfl) rfl rfl ?_; refine M0 (q_neq rfl rfl rfl rfl) rfl rfl ?_; refine L_nil ?_; refine T_n ?_
  refine A_cond rfl (fun h => ?_) (fun h => ?_)
  · have h3 : m ≠ 0 := by have := of_decide_eq_true h; omega
    have hb2 : decide ((m : Int) % 10 < 0) = false := decide_eq_false (by omega)
    have hc := S_l01Figure ((m : Int) % 10) (by omega) (by omega)
    have hsz := bs_size acc
    have hs1 : (bs [UInt8.ofNat (48 + (m : Int) % 10).toNat]).size = 1 := bs_size _
    have hnx : decG (m / 10) ++ ([UInt8.ofNat (48 + (m : Int) % 10).toNat] ++ acc) = Lib.decDigits n := by rw [← hp1, decG_step h3, List.append_assoc]; congr 3
    refine A_skip ?_; refine T_n ?_; refine A_block ?_; refine A_seq ?_; refine A_region ?_; refine M0 (q_moveC rfl rfl rfl) rfl rfl ?_; refine M0 (q_rem rfl rfl rfl rfl (by omega)) rfl rfl ?_
    refine M0 (q_assignC rfl rfl rfl) rfl rfl ?_; refine L_nil ?_; refine T_n ?_; refine A_seq ?_; refine A_seq ?_; refine A_region ?_; refine M0 (q_moveC rfl rfl rfl) rfl rfl ?_
    refine M0 (q_lssK rfl rfl rfl rfl (by assumption)) rfl rfl ?_; refine L_nil ?_; refine T_n ?_; refine A_ifF rfl ?_; refine A_skip ?_; refine T_n ?_; refine A_seq ?_; refine A_region ?_
    refine M0 (q_moveC rfl rfl rfl) rfl rfl ?_; refine M0 (q_call0 rfl rfl (hc) rfl) rfl rfl ?_; refine M1 (q_bslice rfl rfl rfl rfl rfl rfl) rfl rfl ?_
    refine M0 (q_bstrb rfl rfl rfl rfl rfl) rfl rfl ?_; refine M0 (q_moveC rfl rfl rfl) rfl rfl ?_
    refine M0 (q_cat rfl rfl rfl rfl (by simp only [bs_size, cat_size, List.length_cons, List.length_nil, List.length_append]; omega)) rfl rfl ?_
    refine M0 (q_assignC rfl rfl rfl) rfl rfl ?_; refine L_nil ?_; refine T_n ?_; refine A_region ?_; refine M0 (q_moveC rfl rfl rfl) rfl rfl ?_
    refine M0 (q_quo rfl rfl rfl rfl (by omega)) rfl rfl ?_; refine M0 (q_assignC rfl rfl rfl) rfl rfl ?_; refine L_nil ?_; refine B_n ?_; refine T_n ?_
    refine ⟨(m / 10), (by omega), (fun (m : Nat) (acc : List UInt8) => (⟨_, [(0, I m), (3, B false), (4, S (bs acc))], []⟩ : St)) (m / 10) ([UInt8.ofNat (48 + (m : Int) % 10).toNat] ++ acc), W_go [] (by decide) rfl (rfl) (.cons (I_eq (by omega)) (.cons rfl (.cons (S_eq (bs_app _ _)) (.nil)))), m / 10, [UInt8.ofNat (48 + (m : Int) % 10).toNat] ++ acc, rfl, ⟨hnx, by omega⟩, rfl⟩
  · have h3 : m = 0 := by have := of_decide_eq_false h; omega
    subst h3
    refine A_exit ?_; refine T_x ?_; refine T_x ?_; refine B_xs ?_; refine T_n ?_; refine A_seq ?_; refine A_seq ?_; refine A_region ?_; refine M0 (q_moveC rfl rfl rfl) rfl rfl ?_; refine L_nil ?_
    refine T_n ?_; refine A_ifF rfl ?_; refine A_skip ?_; refine T_n ?_; refine A_seq ?_; refine A_region ?_; refine M0 (q_moveC rfl rfl rfl) rfl rfl ?_; refine M0 (q_assignC rfl rfl rfl) rfl rfl ?_
    refine L_nil ?_; refine T_n ?_; refine A_ret ?_; refine F_r ?_
    exact E_tmp rfl rfl (W_end [] (by decide) rfl rfl (S_eq (by rw [fmtN, ← hp1]; rfl)))
end Go.Proofs.YtkfnaniegldfaaaDoor
end

section
set_option linter.unusedSimpArgs false
set_option linter.unusedVariables false
namespace Go.Proofs.YtkfnaniegldfaaaDoor
open Go.RowKit

def V2.mapk (k : V1 → V1) : V2 → V2
  | .c x => .c (k x)
  | .ag xs => .ag (xs.map k)
def V.mapk (k : V1 → V1) : V → V
  | .o x => .o (x.mapk k)
  | .tu xs => .tu (xs.map (V2.mapk k))
  | .iff cs x => .iff cs (x.mapk k)
def Ob.mapk (k : V1 → V1) : Ob → Ob
  | .box cs => .box (cs.map k)
  | .gh i x => .gh i (x.mapk k)
  | ob => ob

section
variable {P : Program} {E : Env} {ops : Array Oper} {o : Oper} {st : St} {n : Nat} {rest : List Oper} {QQ : Exit → St → Prop} {w w' : World} {H H' : Hs} {F F' : Nat → Prop} {a : Act}

theorem R2.mapk {k : V1 → V1} (hk : ∀ x v, R1 w H F x v → R1 w' H' F' (k x) v) {x : V2} {v : Value} (h : R2 w H F x v) : R2 w' H' F' (x.mapk k) v := by
  cases x with
  | c x => exact hk _ _ h
  | ag xs =>
    obtain ⟨us, e, hl, hr⟩ := h
    refine ⟨us, e, by simpa using hl, fun i x u h1 h2 => ?_⟩
    rw [List.getElem?_map] at h1
    obtain ⟨y, h3, rfl⟩ := Option.map_eq_some_iff.1 h1
    exact hk _ _ (hr i y u h3 h2)
theorem RV.mapk {k : V1 → V1} (hk : ∀ x v, R1 w H F x v → R1 w' H' F' (k x) v) {x : V} {v : Value} (h : RV w H F x v) : RV w' H' F' (x.mapk k) v := by
  cases x with
  | o x => exact R2.mapk hk h
  | tu xs =>
    obtain ⟨us, e, hl, hr⟩ := h
    refine ⟨us, e, by simpa using hl, fun i x u h1 h2 => ?_⟩
    rw [List.getElem?_map] at h1
    obtain ⟨y, h3, rfl⟩ := Option.map_eq_some_iff.1 h1
    exact R2.mapk hk (hr i y u h3 h2)
  | iff cs x => exact ⟨fun hc => R2.mapk hk (h.1 hc), h.2⟩
theorem RB.mapk {k : V1 → V1} (hk : ∀ x v, R1 w H F x v → R1 w' H' F' (k x) v) {p : Nat} (hp : H' p = H p) {ob : Ob} (h : RB w H F p ob) : RB w' H' F' p (ob.mapk k) := by
  cases ob with
  | gone => exact hp.trans h
  | hole => trivial
  | box cs =>
    obtain ⟨g, t, vs, e, hl, hr⟩ := h
    refine ⟨g, t, vs, hp.trans e, by simpa using hl, fun i c u h1 h2 => ?_⟩
    rw [List.getElem?_map] at h1
    obtain ⟨y, h3, rfl⟩ := Option.map_eq_some_iff.1 h1
    exact ⟨hk _ _ (hr i y u h3 h2).1, (hr i y u h3 h2).2⟩
  | row k es => obtain ⟨v, fp, e⟩ := h; exact ⟨v, fp, hp.trans e⟩
  | gh i x => obtain ⟨v, e, hr⟩ := h; exact ⟨v, hp.trans e, R2.mapk hk hr⟩
theorem R0.mapk (h : R0 w H F st a) (k : V1 → V1) (hk : ∀ x v, R1 w H F x v → R1 w' H' F (k x) v) (hok : Ok w' H' F) (objs' : List Ob) (hob : ∀ p, RB w' H' F p (objs'.getD p .gone)) :
    R0 w' H' F ⟨st.n, st.tmps.map fun e => (e.1, e.2.mapk k), objs'⟩ a := by
  refine ⟨hok, hob, fun d => ?_, h.size, h.defers⟩
  have hl : ∀ l : List (Nat × V), RV w H F (look l d) (a.tmps.getD d undef) → RV w' H' F (look (l.map fun e => (e.1, e.2.mapk k)) d) (a.tmps.getD d undef) := by
    intro l
    induction l with
    | nil => intro _; trivial
    | cons e l ih =>
      obtain ⟨e1, e2⟩ := e
      rw [List.map_cons, look_cons, look_cons]
      split
      · exact RV.mapk hk
      · exact ih
  exact hl _ (h.tmp d)

/-- What a callee sees of an argument: pieces ρ are lent. -/
def idxN : List Nat → Nat → Nat → Option Nat
  | [], _, _ => none
  | r :: rs, p, i => match Nat.beq r p with
    | true => some i
    | false => idxN rs p (i + 1)
theorem idxN_ok : ∀ (ρ : List Nat) (p i j : Nat), idxN ρ p i = some j → i ≤ j ∧ ρ[j - i]? = some p
  | [], p, i, j, h => by simp [idxN] at h
  | r :: rs, p, i, j, h => by
    rw [idxN] at h
    split at h
    · rename_i e
      have := Nat.eq_of_beq_eq_true e
      simp only [Option.some.injEq] at h
      subst h this
      exact ⟨Nat.le_refl _, by simp⟩
    · obtain ⟨h1, h2⟩ := idxN_ok rs p (i + 1) j h
      exact ⟨by omega, by rw [show j - i = (j - (i + 1)) + 1 by omega, List.getElem?_cons_succ]; exact h2⟩
theorem idxN_none : ∀ (ρ : List Nat) (p i : Nat), idxN ρ p i = none → p ∉ ρ
  | [], p, i, _ => by simp
  | r :: rs, p, i, h => by
    rw [idxN] at h
    split at h
    · cases h
    · rename_i e
      have h1 := idxN_none rs p (i + 1) h
      intro hp
      rcases List.mem_cons.1 hp with rfl | hp
      · rw [show Nat.beq p p = true from Nat.beq_refl p] at e; cases e
      · exact h1 hp
def offN (ρ qs : List Nat) : Bool := qs.all fun q => !memN ρ q
def lendw1 (objs : List Ob) (ρ : List Nat) : V1 → V1
  | .rd qs x => match offN ρ qs with
    | true => .rd [] x
    | false => match x with
      | .v u => .rd [] (.v u)
      | _ => .un
  | .ref p => match idxN ρ p 0 with
    | some q => .ref q
    | none => match objs.getD p .gone with
      | .row k es => .rd [] (.sl k es)
      | _ => .un
  | .ptr p i => match idxN ρ p 0 with
    | some q => .ptr q i
    | none => .un
  | .el p k i j => match idxN ρ p 0 with
    | some q => .el q k i j
    | none => .un
  | .sb p _ 1 => match idxN ρ p 0 with
    | some _ => .un
    | none => match objs.getD p .gone with
      | .box cs => match sbE cs with
        | some es => .rd [] (.sl 1 es)
        | none => .un
      | _ => .un
  | _ => .un
def lendw (objs : List Ob) (ρ : List Nat) : V → V2
  | .o (.c x) => .c (lendw1 objs ρ x)
  | .o (.ag xs) => .ag (xs.map (lendw1 objs ρ))
  | _ => .c .un
/-- What is forgotten after the call: what was said of the lent pieces ps, but for the places of those in kc. -/
def V1.killw (ps kc : List Nat) : V1 → V1
  | .rd qs x => match offN ps qs with
    | true => .rd qs x
    | false => match x with
      | .v u => .rd [] (.v u)
      | _ => .un
  | .ref p => match memN ps p with
    | false => .ref p
    | true => match memN kc p with
      | true => .ref p
      | false => .un
  | .ptr p i => match memN ps p with
    | false => .ptr p i
    | true => match memN kc p with
      | true => .ptr p i
      | false => .un
  | .el p k i j => match memN ps p with
    | false => .el p k i j
    | true => match memN kc p with
      | true => .el p k i j
      | false => .un
  | .sb p n k => match memN ps p with
    | false => .sb p n k
    | true => .un
  | .rp qs xs => match offN ps qs with
    | true => .rp qs xs
    | false => .un
  | .le p k i j => match memN ps p with
    | false => .le p k i j
    | true => .un
  | .hd p n => match memN ps p with
    | false => .hd p n
    | true => .un
  | .un => .un
/-- The same place: the same block, or the same slice. -/
def Place (x y : Pc) : Prop := (∃ t v fp t' fp', x = .ow t v fp ∧ y = .ow t' v fp') ∨ ∃ g t vs t' vs', x = .box g t vs ∧ y = .box g t' vs'

theorem offN_ok {ρ qs : List Nat} (h : offN ρ qs = true) : ∀ q ∈ qs, q ∉ ρ := fun q hq => by
  have := List.all_eq_true.1 h q hq
  simp only [Bool.not_eq_true'] at this
  exact memN_not this
theorem R1.killw {ps kc : List Nat} (hok : Ok w H F) (ht : Turn w H w' H' ps) (hkc : ∀ p ∈ kc, Place (H p) (H' p)) {x : V1} {v : Value} (h : R1 w H F x v) : R1 w' H' F (x.killw ps kc) v := by
  have hoff : ∀ qs : List Nat, offN ps qs = true → (qs.all fun q => !ps.contains q) = true := fun qs hq => List.all_eq_true.2 fun q hm => by simpa using offN_ok hq q hm
  have hone : ∀ p, memN ps p = false → (!ps.contains p) = true := fun p hp => by simpa using memN_not hp
  cases x with
  | rd qs x =>
    simp only [V1.killw]
    split
    · rename_i hq; exact R1.turn hok ht (x := .rd qs x) (hoff qs hq) h
    · split
      · obtain ⟨rfl, h1⟩ := RO.plain h; exact RO.v _ h1
      · trivial
  | ref p =>
    simp only [V1.killw]
    split
    · rename_i hp; exact R1.turn hok ht (x := .ref p) (hone p hp) h
    · split
      · rename_i hp
        obtain ⟨x, fp, e⟩ := h
        rcases hkc p ((memN_iff _ _).1 hp) with ⟨t, v', fp1, t', fp2, e1, e2⟩ | ⟨g, t, vs, t', vs', e1, e2⟩
        · rw [e] at e1
          simp only [Pc.ow.injEq] at e1
          obtain ⟨_, rfl, _⟩ := e1
          exact ⟨t', fp2, e2⟩
        · rw [e] at e1; cases e1
      · trivial
  | ptr p i =>
    simp only [V1.killw]
    split
    · rename_i hp; exact R1.turn hok ht (x := .ptr p i) (hone p hp) h
    · split
      · rename_i hp
        obtain ⟨g0, t0, vs0, e, hv⟩ := h
        rcases hkc p ((memN_iff _ _).1 hp) with ⟨t, v', fp1, t', fp2, e1, e2⟩ | ⟨g, t, vs, t', vs', e1, e2⟩
        · rw [e] at e1; cases e1
        · rw [e] at e1
          simp only [Pc.box.injEq] at e1
          obtain ⟨rfl, _, _⟩ := e1
          exact ⟨_, _, _, e2, hv⟩
      · trivial
  | el p k i j =>
    simp only [V1.killw]
    split
    · rename_i hp; exact R1.turn hok ht (x := .el p k i j) (hone p hp) h
    · split
      · rename_i hp
        obtain ⟨b, o, n, c, x, fp, e, hv⟩ := h
        rcases hkc p ((memN_iff _ _).1 hp) with ⟨t, v', fp1, t', fp2, e1, e2⟩ | ⟨g, t, vs, t', vs', e1, e2⟩
        · rw [e] at e1
          simp only [Pc.ow.injEq] at e1
          obtain ⟨_, rfl, _⟩ := e1
          exact ⟨b, o, n, c, t', fp2, e2, hv⟩
        · rw [e] at e1; cases e1
      · trivial
  | sb p n k =>
    simp only [V1.killw]
    split
    · rename_i hp; exact R1.turn hok ht (x := .sb p n k) (hone p hp) h
    · trivial
  | rp qs xs =>
    simp only [V1.killw]
    split
    · rename_i hq; exact R1.turn hok ht (x := .rp qs xs) (hoff qs hq) h
    · trivial
  | le p k i j =>
    simp only [V1.killw]
    split
    · rename_i hp; exact R1.turn hok ht (x := .le p k i j) (hone p hp) h
    · trivial
  | hd p n =>
    simp only [V1.killw]
    split
    · rename_i hp; exact R1.turn hok ht (x := .hd p n) (hone p hp) h
    · trivial
  | un => trivial

theorem lendw1_ok {ρ : List Nat} {H1 : Hs} {F1 : Nat → Prop} (h : R0 w H F st a) (hH : ∀ q p, ρ[q]? = some p → H1 q = H p) (hF : ∀ b, b < w.heap.size → (∀ p ∈ ρ, b ∉ (H p).fp) → F1 b) {x : V1} {v : Value} (hx : R1 w H F x v) : R1 w H1 F1 (lendw1 st.objs ρ x) v := by
  have hrow : ∀ (p k : Nat) (es : List (List T)), p ∉ ρ → st.objs.getD p .gone = .row k es → R1 w H F (.ref p) v → R1 w H1 F1 (.rd [] (.sl k es)) v := by
    intro p k es hp ho hx
    have h1 := h.obs p
    rw [ho] at h1
    obtain ⟨u, fp, e⟩ := h1
    obtain ⟨x, fp', e'⟩ := hx
    have h2 := h.ok.says p
    rw [e] at h2 e'
    simp only [Pc.ow.injEq] at e'
    obtain ⟨_, rfl, _⟩ := e'
    refine RO.weak (OW.ro h2) fun b hb hlt => .inl (hF b hlt fun r hr hb' => ?_)
    have := h.ok.disj p r b (by rw [e]; exact hb) hb'
    exact hp (this ▸ hr)
  cases x with
  | rd qs x =>
    simp only [lendw1]
    split
    · rename_i hq
      refine RO.weak hx fun b hb hlt => .inl (hF b hlt fun r hr hb' => ?_)
      rcases hb with hb | ⟨q, h1, x, v, fp, e, hb⟩
      · exact h.ok.free r b hb' hb
      · have := h.ok.disj q r b (by rw [e]; exact hb) hb'
        exact offN_ok hq q h1 (this ▸ hr)
    · split
      · obtain ⟨rfl, h1⟩ := RO.plain hx; exact RO.v _ h1
      · trivial
  | ref p =>
    simp only [lendw1]
    split
    · rename_i q hq
      obtain ⟨_, h2⟩ := idxN_ok ρ p 0 q hq
      obtain ⟨x, fp, e⟩ := hx
      exact ⟨x, fp, (hH q p (by simpa using h2)).trans e⟩
    · rename_i hq
      split
      · rename_i k es ho; exact hrow p k es (idxN_none ρ p 0 hq) ho hx
      · trivial
  | ptr p i =>
    simp only [lendw1]
    split
    · rename_i q hq
      obtain ⟨_, h2⟩ := idxN_ok ρ p 0 q hq
      obtain ⟨g, t, vs, e, hv⟩ := hx
      exact ⟨g, t, vs, (hH q p (by simpa using h2)).trans e, hv⟩
    · trivial
  | el p k i j =>
    simp only [lendw1]
    split
    · rename_i q hq
      obtain ⟨_, h2⟩ := idxN_ok ρ p 0 q hq
      obtain ⟨b, o, n, c, x, fp, e, hv⟩ := hx
      exact ⟨b, o, n, c, x, fp, (hH q p (by simpa using h2)).trans e, hv⟩
    · trivial
  | sb p n' k =>
    unfold lendw1
    split
    · rename_i e; cases e
    · rename_i e; cases e
    · rename_i e; cases e
    · rename_i e; cases e
    · rename_i p' n'' e
      simp only [V1.sb.injEq] at e
      obtain ⟨rfl, rfl, rfl⟩ := e
      split
      · trivial
      · rename_i hq
        have hp := idxN_none ρ p 0 hq
        have h3 := lend_ok (H1 := H1) h hx
        simp only [lend] at h3
        split
        · rename_i cs ho
          rw [ho] at h3
          simp only at h3
          split
          · rename_i es hs
            rw [hs] at h3
            obtain ⟨g, t, vs, e1, e2, e3, rfl⟩ := hx
            -- the cells lie in the box's own block
            have h4 : R1 w (fun _ => .nil) (fun b => b = g) (.rd [] (.sl 1 es)) (.slice (some ⟨g, 0, none⟩) n' n') := by
              have h5 : RO w _ (.sl 1 es) (.slice (some ⟨g, 0, none⟩) n' n') := h3
              cases h5 with
              | nil => exact .nil _ _ _ (by assumption)
              | sl _ b o _ c val hF' hc hm hp' hk hv ht =>
                refine .sl es g 0 1 _ val (.inl rfl) hc hm hp' hk hv fun i j e t' hi hj => ?_
                have h6 := ht i j e t' hi hj
                obtain ⟨hpl, _⟩ : (∃ u, t' = .v u) ∧ True := by
                  obtain ⟨_, k2⟩ := sbE_ok _ _ hs
                  obtain ⟨_, u, _, k4⟩ := k2 i e hi
                  subst k4
                  cases j with
                  | zero => simp at hj; exact ⟨⟨u, hj.symm⟩, trivial⟩
                  | succ j => simp at hj
                obtain ⟨u, rfl⟩ := hpl
                obtain ⟨h7, h8⟩ := RO.plain h6
                rw [h7]
                exact .v u h8
            refine RO.weak h4 fun b hb hlt => .inl (hF b hlt fun r hr hb' => ?_)
            rcases hb with e9 | ⟨q, h1, _⟩
            · have := h.ok.disj p r b (by rw [e1, e9]; simp [Pc.fp]) hb'
              exact hp (this ▸ hr)
            · simp at h1
          · trivial
        · trivial
    · trivial
  | rp => trivial
  | le => trivial
  | hd => trivial
  | un => trivial

theorem R1.sub {H1 : Hs} {F1 : Nat → Prop} (hs : ∀ q, H q ≠ .nil → H1 q = H q) (hF : ∀ b, F b → F1 b) {x : V1} {v : Value} (h : R1 w H F x v) : R1 w H1 F1 x v := by
  have hin : ∀ {qs : List Nat} {b : Nat}, inP H F qs b → inP H1 F1 qs b := fun hb => by
    rcases hb with hb | ⟨q, hq, x, v, fp, e, hb⟩
    · exact .inl (hF _ hb)
    · exact .inr ⟨q, hq, x, v, fp, by rw [hs q (by rw [e]; simp), e], hb⟩
  cases x with
  | rd qs x => exact RO.weak h fun b hb _ => hin hb
  | ref p => obtain ⟨x, fp, e⟩ := h; exact ⟨x, fp, by rw [hs p (by rw [e]; simp), e]⟩
  | ptr p i => obtain ⟨g, t, vs, e, hv⟩ := h; exact ⟨g, t, vs, by rw [hs p (by rw [e]; simp), e], hv⟩
  | sb p n k => obtain ⟨g, t, vs, e, hv⟩ := h; exact ⟨g, t, vs, by rw [hs p (by rw [e]; simp), e], hv⟩
  | el p k i j => obtain ⟨b, o, n, c, x, fp, e, hv⟩ := h; exact ⟨b, o, n, c, x, fp, by rw [hs p (by rw [e]; simp), e], hv⟩
  | le p k i j => obtain ⟨b, o, n, c, x, fp, e, hv⟩ := h; exact ⟨b, o, n, c, x, fp, by rw [hs p (by rw [e]; simp), e], hv⟩
  | hd p n => obtain ⟨A, m, c, x, fp, e, hv⟩ := h; exact ⟨A, m, c, x, fp, by rw [hs p (by rw [e]; simp), e], hv⟩
  | rp qs xs =>
    obtain ⟨b, o, hv, hb, hc⟩ := h
    refine ⟨b, o, hv, hin hb, fun j t hj => ?_⟩
    obtain ⟨u, h1, h2⟩ := hc j t hj
    exact ⟨u, h1, RO.weak h2 fun b hb _ => hin hb⟩
  | un => trivial
theorem R2.sub {H1 : Hs} {F1 : Nat → Prop} (hs : ∀ q, H q ≠ .nil → H1 q = H q) (hF : ∀ b, F b → F1 b) {x : V2} {v : Value} (h : R2 w H F x v) : R2 w H1 F1 x v := by
  cases x with
  | c x => exact R1.sub hs hF h
  | ag xs => obtain ⟨us, e, hl, hr⟩ := h; exact ⟨us, e, hl, fun i x u h1 h2 => R1.sub hs hF (hr i x u h1 h2)⟩
theorem RB.sub {H1 : Hs} {F1 : Nat → Prop} (hs : ∀ q, H q ≠ .nil → H1 q = H q) (hF : ∀ b, F b → F1 b) {p : Nat} {ob : Ob} (hp : H p ≠ .nil) (h : RB w H F p ob) : RB w H1 F1 p ob := by
  cases ob with
  | gone => exact absurd h hp
  | hole => trivial
  | box cs => obtain ⟨g, t, vs, e, hl, hr⟩ := h; exact ⟨g, t, vs, by rw [hs p hp, e], hl, fun i c u h1 h2 => ⟨R1.sub hs hF (hr i c u h1 h2).1, (hr i c u h1 h2).2⟩⟩
  | row k es => obtain ⟨v, fp, e⟩ := h; exact ⟨v, fp, by rw [hs p hp, e]⟩
  | gh i x => obtain ⟨v, e, hr⟩ := h; exact ⟨v, by rw [hs p hp, e], R2.sub hs hF hr⟩

/-- What comes back, in the caller's numbers. -/
def phi (ρ : List Nat) (m N q : Nat) : Nat := match Nat.blt q ρ.length with
  | true => ρ.getD q 0
  | false => N + (q - (ρ.length + m))
section
variable {H2 : Hs} {F2 : Nat → Prop} {φ : Nat → Nat}
theorem plantw1 (hpl : ∀ q, H2 q ≠ .nil → (∀ i v, H2 q ≠ .gh i v) → H' (φ q) = H2 q) {x : V1} {v : Value} (hc : x.closed = true) (hx : R1 w H2 F2 x v) : R1 w H' F (x.ren φ) v := by
  cases x with
  | rd ps x =>
    cases x with
    | v x => obtain ⟨rfl, h⟩ := RO.plain hx; exact RO.v _ h
    | sl k es => simp [V1.closed] at hc
    | un => exact RO.un _ (RO.one hx)
  | ref q => obtain ⟨x, fp, e⟩ := hx; exact ⟨x, fp, by rw [hpl q (by rw [e]; simp) (by rw [e]; simp), e]⟩
  | ptr q i => obtain ⟨g, t, vs, e, hv⟩ := hx; exact ⟨g, t, vs, by rw [hpl q (by rw [e]; simp) (by rw [e]; simp), e], hv⟩
  | sb q i j => obtain ⟨g, t, vs, e, hv⟩ := hx; exact ⟨g, t, vs, by rw [hpl q (by rw [e]; simp) (by rw [e]; simp), e], hv⟩
  | el q k i j => obtain ⟨b, o, n', c, x, fp, e, hv⟩ := hx; exact ⟨b, o, n', c, x, fp, by rw [hpl q (by rw [e]; simp) (by rw [e]; simp), e], hv⟩
  | rp => simp [V1.closed] at hc
  | le q k i j => obtain ⟨b, o, n', c, x, fp, e, hv⟩ := hx; exact ⟨b, o, n', c, x, fp, by rw [hpl q (by rw [e]; simp) (by rw [e]; simp), e], hv⟩
  | hd q i => obtain ⟨A, m', c, x, fp, e, hv⟩ := hx; exact ⟨A, m', c, x, fp, by rw [hpl q (by rw [e]; simp) (by rw [e]; simp), e], hv⟩
  | un => trivial
theorem plantw2 (hpl : ∀ q, H2 q ≠ .nil → (∀ i v, H2 q ≠ .gh i v) → H' (φ q) = H2 q) {x : V2} {v : Value} (hc : x.closed = true) (hx : R2 w H2 F2 x v) : R2 w H' F (x.ren φ) v := by
  cases x with
  | c x => exact plantw1 hpl hc hx
  | ag xs =>
    obtain ⟨us, e, hl, hr⟩ := hx
    refine ⟨us, e, by simpa using hl, fun i x u hi hu => ?_⟩
    rw [List.getElem?_map] at hi
    obtain ⟨c, h1, rfl⟩ := Option.map_eq_some_iff.1 hi
    exact plantw1 hpl (List.all_eq_true.1 hc c (getE_mem h1)) (hr i c u h1 hu)
theorem plantwV (hpl : ∀ q, H2 q ≠ .nil → (∀ i v, H2 q ≠ .gh i v) → H' (φ q) = H2 q) {x : V} {v : Value} (hc : x.closed = true) (hx : RV w H2 F2 x v) : RV w H' F (x.ren φ) v := by
  cases x with
  | o x => exact plantw2 hpl hc hx
  | tu xs =>
    obtain ⟨us, e, hl, hr⟩ := hx
    refine ⟨us, e, by simpa using hl, fun i x u hi hu => ?_⟩
    rw [List.getElem?_map] at hi
    obtain ⟨c, h1, rfl⟩ := Option.map_eq_some_iff.1 hi
    exact plantw2 hpl (List.all_eq_true.1 hc c (getE_mem h1)) (hr i c u h1 hu)
  | iff cs x => exact ⟨fun h => plantw2 hpl hc (hx.1 h), hx.2⟩
/-- A piece that comes back known. -/
def Ob.back : Ob → Bool
  | .box cs => cs.all V1.closed
  | .row _ _ => true
  | _ => false
theorem back_ng {q : Nat} {ob : Ob} (hb : ob.back = true) (h : RB w H2 F2 q ob) : H2 q ≠ .nil ∧ ∀ i v, H2 q ≠ .gh i v := by
  cases ob with
  | box cs => obtain ⟨g, t, vs, e, _⟩ := h; rw [e]; simp
  | row k es => obtain ⟨v, fp, e⟩ := h; rw [e]; simp
  | gone => cases hb
  | hole => cases hb
  | gh => cases hb
theorem plantwB (hpl : ∀ q, H2 q ≠ .nil → (∀ i v, H2 q ≠ .gh i v) → H' (φ q) = H2 q) {q p : Nat} {ob : Ob} (hp : H' p = H2 q) (hb : ob.back = true) (h : RB w H2 F2 q ob) : RB w H' F p (ob.ren φ) := by
  cases ob with
  | box cs =>
    obtain ⟨g, t, vs, e, hl, hr⟩ := h
    refine ⟨g, t, vs, hp.trans e, by simpa using hl, fun i c u hi hu => ?_⟩
    rw [List.getElem?_map] at hi
    obtain ⟨c', h1, rfl⟩ := Option.map_eq_some_iff.1 hi
    exact ⟨plantw1 hpl (List.all_eq_true.1 hb c' (getE_mem h1)) (hr i c' u h1 hu).1, (hr i c' u h1 hu).2⟩
  | row k es => obtain ⟨v, fp, e⟩ := h; exact ⟨v, fp, hp.trans e⟩
  | gone => cases hb
  | hole => cases hb
  | gh => cases hb
end
def setL {α : Type} : List α → List Nat → List α → List α
  | l, r :: rs, o :: os => setL (l.set r o) rs os
  | l, _, _ => l
theorem setL_len {α : Type} : ∀ (rs : List Nat) (os : List α) (l : List α), (setL l rs os).length = l.length
  | [], os, l => by cases os <;> rfl
  | r :: rs, [], l => rfl
  | r :: rs, o :: os, l => by rw [setL, setL_len rs os, List.length_set]
theorem setL_out {α : Type} {d : α} : ∀ (rs : List Nat) (os : List α) (l : List α) (p : Nat), p ∉ rs → (setL l rs os).getD p d = l.getD p d
  | [], os, l, p, _ => by cases os <;> rfl
  | r :: rs, [], l, p, _ => rfl
  | r :: rs, o :: os, l, p, hp => by
    rw [setL, setL_out rs os _ p (fun h => hp (by simp [h])), List.getD_eq_getElem?_getD, List.getElem?_set_ne (fun e => hp (by simp [e])), List.getD_eq_getElem?_getD]
theorem setL_in {α : Type} {d : α} : ∀ (rs : List Nat) (os : List α) (l : List α) (q p : Nat) (x : α), rs.Nodup → (∀ r ∈ rs, r < l.length) → rs[q]? = some p → os[q]? = some x → (setL l rs os).getD p d = x
  | [], os, l, q, p, x, _, _, h, _ => by simp at h
  | r :: rs, [], l, q, p, x, _, _, _, h => by simp at h
  | r :: rs, o :: os, l, q, p, x, hn, hl, h1, h2 => by
    obtain ⟨n1, n2⟩ := List.nodup_cons.1 hn
    cases q with
    | zero =>
      simp only [List.getElem?_cons_zero, Option.some.injEq] at h1 h2
      subst h1 h2
      rw [setL, setL_out rs os _ r n1, List.getD_eq_getElem?_getD, List.getElem?_set_self (hl r (by simp))]
      rfl
    | succ q =>
      rw [setL]
      exact setL_in rs os _ q p x n2 (fun r hr => by rw [List.length_set]; exact hl r (by simp [hr])) (by simpa using h1) (by simpa using h2)
def gh1 (g : Nat × V2) : Ob := .gh g.1 g.2
/-- The place that a pointer or slice speaks of. -/
def plc : V1 → Option Nat
  | .ref q => some q
  | .ptr q _ => some q
  | _ => none

def pickC : V2 → Nat → Option V1
  | .c x, _ => some x
  | .ag xs, j => xs[j]?
def pickU : V2 → Value → Nat → Value
  | .c _, v, _ => v
  | .ag _, v, j => match v with
    | .agg us => us.toList.getD j undef
    | _ => undef
theorem R2.cell {x : V2} {v : Value} {j : Nat} {c : V1} (h : R2 w H F x v) (hp : pickC x j = some c) : R1 w H F c (pickU x v j) := by
  cases x with
  | c x => simp only [pickC, Option.some.injEq] at hp; subst hp; exact h
  | ag xs =>
    obtain ⟨us, rfl, hl, hr⟩ := h
    have hj : j < us.length := by rw [hl]; exact getE_lt hp
    have := hr j c _ hp (List.getElem?_eq_getElem hj)
    simpa [pickU, List.getD_eq_getElem?_getD, hj] using this

theorem L_lent {f : FuncId} [hf : FunOk P f] {ass : Array Operand} {tys : Array TypeId} {args : List V2} {lo lo' new : List Ob} {gs gs' : List (Nat × V2)} {res : V} (ρ : List Nat) (kq : List (Nat × Nat × V1)) (ho : o.op = .call { callee := .value (.func f), args := ass, argTypes := tys }) (hg : o.guard = none)
    (hc : Con P f (lo ++ gs.map gh1) args (lo' ++ (gs'.map gh1 ++ new)) res) (hρ : nodupB ρ = true) (hlt : ρ.all (fun p => Nat.blt p st.objs.length) = true) (hl1 : lo.length = ρ.length) (hl2 : lo'.length = ρ.length) (hl3 : gs'.length = gs.length)
    (hlo : lo.map (Ob.ren (rho ρ st.objs.length)) = ρ.map fun p => st.objs.getD p .gone) (hgn : ρ.all (fun p => (st.objs.getD p .gone).back || (match st.objs.getD p .gone with | .box _ => true | _ => false)) = true) (ha : ass.toList.map (fun y => lendw st.objs ρ (st.ev y)) = args)
    (hgs : gs.map (fun g => args[g.1]?) = gs.map (fun g => some g.2)) (hk1 : kq.map (fun k => gs[k.1]?.bind fun g => pickC g.2 k.2.1) = kq.map (fun k => some k.2.2)) (hk2 : kq.map (fun k => gs'[k.1]?) = kq.map (fun k => gs[k.1]?)) (hk3 : kq.all (fun k => match plc k.2.2 with | some q => Nat.blt q ρ.length | none => false) = true)
    (hcl : res.closed = true) (hb1 : lo'.all Ob.back = true) (hb2 : new.all Ob.back = true) (hd : dstOk st.n o.dst = true)
    (h : AL P E ops QQ rest ⟨st.n, setT (st.tmps.map fun e => (e.1, e.2.mapk (V1.killw (ρ ++ (List.range new.length).map (st.objs.length + ·)) (kq.map fun k => ρ.getD ((plc k.2.2).getD 0) 0)))) o.dst (res.ren (phi ρ gs.length st.objs.length)),
      setL (st.objs.map (Ob.mapk (V1.killw (ρ ++ (List.range new.length).map (st.objs.length + ·)) (kq.map fun k => ρ.getD ((plc k.2.2).getD 0) 0)))) ρ (lo'.map (Ob.ren (phi ρ gs.length st.objs.length))) ++ new.map (Ob.ren (phi ρ gs.length st.objs.length))⟩) : AL P E ops QQ (o :: rest) st := by
  refine ⟨fun a w ⟨H, F, hr, hsince⟩ => ?_⟩
  have hrun : (execOp a.eval o).run P w = .ok (.enter f (ass.toList.map a.eval).toArray) w := by
    unfold execOp
    simp only [ho, resolve, Act.eval, Deferred.ofValue, Sem.run_bind, Sem.run_pure, Result.andThen_ok, invoke]
    rw [show (#[] ++ ass.map a.eval ++ #[]) = (ass.toList.map a.eval).toArray by
      apply Array.ext'
      simp]
    exact run_callFunc _
  refine wpList_step fun K hK => ?_
  rw [if_pos (by unfold Region.wanted; rw [hg])]
  unfold Oper.wp
  rw [hrun]
  have hnd : ρ.Nodup := nodupB_spec hρ
  have hltN : ∀ p ∈ ρ, p < st.objs.length := fun p hp => Nat.le_of_ble_eq_true (List.all_eq_true.1 hlt p hp)
  have hnilN : ∀ p, st.objs.length ≤ p → H p = .nil := fun p hp => by
    have := hr.obs p
    simpa [List.getD_eq_getElem?_getD, hp, RB] using this
  have hinj : ∀ (i j p : Nat), ρ[i]? = some p → ρ[j]? = some p → i = j := fun i j p h1 h2 => by
    obtain ⟨a1, e1⟩ := List.getElem?_eq_some_iff.1 h1
    obtain ⟨a2, e2⟩ := List.getElem?_eq_some_iff.1 h2
    rcases Nat.lt_trichotomy i j with hij | hij | hij
    · exact absurd (e1.trans e2.symm) (List.pairwise_iff_getElem.1 hnd i j a1 a2 hij)
    · exact hij
    · exact absurd (e2.trans e1.symm) (List.pairwise_iff_getElem.1 hnd j i a2 a1 hij)
  obtain ⟨vs, hvs⟩ : ∃ vs, vs = ass.toList.map a.eval := ⟨_, rfl⟩
  obtain ⟨H1, hH1⟩ : ∃ H1 : Hs, H1 = fun q => match ρ[q]? with | some p => H p | none => match gs[q - ρ.length]? with | some g => if ρ.length ≤ q then .gh g.1 (vs.getD g.1 undef) else .nil | none => .nil := ⟨_, rfl⟩
  have a1 : ∀ q p, ρ[q]? = some p → H1 q = H p := fun q p hq => by rw [hH1]; simp only [hq]
  have a2 : ∀ j g, gs[j]? = some g → H1 (ρ.length + j) = .gh g.1 (vs.getD g.1 undef) := fun j g hj => by
    rw [hH1]
    have : ρ[ρ.length + j]? = none := List.getElem?_eq_none (by omega)
    simp only [this, Nat.add_sub_cancel_left, hj]
    rw [if_pos (by omega)]
  have a3 : ∀ q b, b ∈ (H1 q).fp → ∃ p, ρ[q]? = some p ∧ b ∈ (H p).fp := fun q b hb => by
    cases hq : ρ[q]? with
    | some p => rw [a1 q p hq] at hb; exact ⟨p, rfl, hb⟩
    | none =>
      rw [hH1] at hb
      simp only [hq] at hb
      split at hb
      · split at hb <;> simp [Pc.fp] at hb
      · simp [Pc.fp] at hb
  have a4 : ∀ q i v, H1 q = .gh i v → (∃ p, ρ[q]? = some p ∧ H p = .gh i v) ∨ v = vs.getD i undef := fun q i v hq => by
    cases hp : ρ[q]? with
    | some p => rw [a1 q p hp] at hq; exact .inl ⟨p, rfl, hq⟩
    | none =>
      rw [hH1] at hq
      simp only [hp] at hq
      split at hq
      · split at hq
        · simp only [Pc.gh.injEq] at hq
          exact .inr (by rw [← hq.2, hq.1])
        · cases hq
      · cases hq
  obtain ⟨F1, hF1⟩ : ∃ F1 : Nat → Prop, F1 = fun b => b < w.heap.size ∧ ∀ p ∈ ρ, b ∉ (H p).fp := ⟨_, rfl⟩
  have hFF : ∀ b, F b → F1 b := fun b hb => by rw [hF1]; exact ⟨hr.ok.flt b hb, fun p _ h => hr.ok.free p b h hb⟩
  have hsubH : ∀ q, H (rho ρ st.objs.length q) ≠ .nil → H1 q = H (rho ρ st.objs.length q) := fun q hq => by
    cases hp : ρ[q]? with
    | some p => rw [a1 q p hp]; simp [rho, List.getD_eq_getElem?_getD, hp]
    | none => exact absurd (hnilN _ (by simp [rho, List.getD_eq_getElem?_getD, hp])) hq
  have hgok : ∀ p ∈ ρ, H p ≠ .nil ∧ ∀ i v, H p ≠ .gh i v := fun p hp => by
    have h1 := List.all_eq_true.1 hgn p hp
    have h2 := hr.obs p
    cases ho : st.objs.getD p .gone with
    | box cs => rw [ho] at h2; obtain ⟨g, t, us, e, _⟩ := h2; rw [e]; simp
    | row k es => rw [ho] at h2; obtain ⟨v, fp, e⟩ := h2; rw [e]; simp
    | gone => rw [ho] at h1; cases h1
    | hole => rw [ho] at h1; cases h1
    | gh => rw [ho] at h1; cases h1
  have hok1 : Ok w H1 F1 := by
    refine ⟨fun q => ?_, fun q => ?_, fun q r b h1 h2 => ?_, fun q b h1 h2 => ?_, fun b hb => by rw [hF1] at hb; exact hb.1⟩
    · cases hp : ρ[q]? with
      | some p => rw [a1 q p hp]; exact hr.ok.says p
      | none =>
        rw [hH1]
        simp only [hp]
        split
        · split <;> trivial
        · trivial
    · cases hp : ρ[q]? with
      | some p => rw [a1 q p hp]; exact hr.ok.nodup p
      | none =>
        rw [hH1]
        simp only [hp]
        split
        · split <;> simp [Pc.fp]
        · simp [Pc.fp]
    · obtain ⟨p, e1, e2⟩ := a3 q b h1
      obtain ⟨p', e3, e4⟩ := a3 r b h2
      have := hr.ok.disj p p' b e2 e4
      subst this
      exact hinj q r p e1 e3
    · obtain ⟨p, e1, e2⟩ := a3 q b h1
      rw [hF1] at h2
      exact h2.2 p (getE_mem e1) e2
  have hargs1 : ∀ (i : Nat) (x : V2) (v : Value), args[i]? = some x → vs[i]? = some v → R2 w H1 F1 x v := by
    intro i x v hx hv
    rw [← ha, List.getElem?_map] at hx
    obtain ⟨y, h1, rfl⟩ := Option.map_eq_some_iff.1 hx
    rw [hvs, List.getElem?_map, h1] at hv
    simp only [Option.map_some, Option.some.injEq] at hv
    subst hv
    have h2 := hr.ev y
    have hl1 : ∀ {x : V1} {v : Value}, R1 w H F x v → R1 w H1 F1 (lendw1 st.objs ρ x) v := fun hx => lendw1_ok hr a1 (fun b h1 h2 => by rw [hF1]; exact ⟨h1, h2⟩) hx
    cases he : st.ev y with
    | o x =>
      rw [he] at h2
      cases x with
      | c x => exact hl1 h2
      | ag xs =>
        obtain ⟨us, e, hl, hcs⟩ := h2
        refine ⟨us, e, by simpa using hl, fun i x u hi hu => ?_⟩
        rw [List.getElem?_map] at hi
        obtain ⟨c, h3, rfl⟩ := Option.map_eq_some_iff.1 hi
        exact hl1 (hcs i c u h3 hu)
    | tu xs => trivial
    | iff cs x => trivial
  have hgsat : ∀ (j : Nat) (g : Nat × V2), gs[j]? = some g → args[g.1]? = some g.2 := fun j g hj => by
    have := congrArg (·[j]?) hgs
    simpa [hj] using this
  have hvl : vs.length = args.length := by rw [hvs, ← ha]; simp
  have hvat : ∀ (i : Nat) (x : V2), args[i]? = some x → vs[i]? = some (vs.getD i undef) := fun i x hx => by
    have : i < vs.length := by rw [hvl]; exact getE_lt hx
    simp [List.getD_eq_getElem?_getD, this]
  have hobs1 : ∀ q, RB w H1 F1 q ((lo ++ gs.map gh1).getD q .gone) := by
    intro q
    rcases Nat.lt_or_ge q ρ.length with hq | hq
    · have hp : ρ[q]? = some ρ[q] := List.getElem?_eq_getElem hq
      have hlq : lo[q]? = some (lo[q]'(by omega)) := List.getElem?_eq_getElem (by omega)
      have h1 := congrArg (·[q]?) hlo
      simp only [List.getElem?_map, hlq, hp, Option.map_some, Option.some.injEq] at h1
      rw [show (lo ++ gs.map gh1).getD q .gone = lo[q]'(by omega) by simp [List.getD_eq_getElem?_getD, List.getElem?_append_left (show q < lo.length by omega), hl1, hq]]
      have h2 := hr.obs ρ[q]
      rw [← h1] at h2
      have hf : rho ρ st.objs.length q = ρ[q] := by simp [rho, List.getD_eq_getElem?_getD, hq]
      have h3 : RB w (fun p => H (rho ρ st.objs.length p)) F q (lo[q]'(by omega)) := RB.ren (f := rho ρ st.objs.length) (by rw [hf]; exact h2)
      exact RB.sub (H := fun p => H (rho ρ st.objs.length p)) hsubH hFF (by simp only [hf]; exact (hgok _ (List.getElem_mem hq)).1) h3
    · cases hj : gs[q - ρ.length]? with
      | some g =>
        rw [show (lo ++ gs.map gh1).getD q .gone = gh1 g by simp [List.getD_eq_getElem?_getD, List.getElem?_append_right (show lo.length ≤ q by omega), hl1, hj]]
        have h1 := a2 _ g hj
        rw [show ρ.length + (q - ρ.length) = q by omega] at h1
        have h2 := hgsat _ g hj
        exact ⟨_, h1, hargs1 _ _ _ h2 (hvat _ _ h2)⟩
      | none =>
        rw [show (lo ++ gs.map gh1).getD q .gone = .gone by simp [List.getD_eq_getElem?_getD, List.getElem?_append_right (show lo.length ≤ q by omega), hl1, hj]]
        show H1 q = .nil
        rw [hH1]
        have : ρ[q]? = none := List.getElem?_eq_none (by omega)
        simp only [this, hj]
  rw [← hvs]
  refine (hc w H1 F1 vs hok1 hobs1 hvl hargs1).mono ?_
  rintro e w' ⟨H2, F2, rv, rfl, hsi, hok2, hobs2, hres⟩
  -- the pieces that come back
  have hoL : ∀ q, q < ρ.length → ∃ ob, lo'[q]? = some ob ∧ ob.back = true ∧ RB w' H2 F2 q ob := fun q hq => by
    have hlq : lo'[q]? = some (lo'[q]'(by omega)) := List.getElem?_eq_getElem (by omega)
    have h1 := hobs2 q
    rw [show (lo' ++ (gs'.map gh1 ++ new)).getD q .gone = lo'[q]'(by omega) by simp [List.getD_eq_getElem?_getD, List.getElem?_append_left (show q < lo'.length by omega), hl2, hq]] at h1
    exact ⟨_, hlq, List.all_eq_true.1 hb1 _ (List.getElem_mem _), h1⟩
  have hoG : ∀ (j : Nat) (g : Nat × V2), gs'[j]? = some g → ∃ v, H2 (ρ.length + j) = .gh g.1 v ∧ R2 w' H2 F2 g.2 v := fun j g hj => by
    have h1 := hobs2 (ρ.length + j)
    rw [show (lo' ++ (gs'.map gh1 ++ new)).getD (ρ.length + j) .gone = gh1 g by
      have : j < (gs'.map gh1).length := by simpa using getE_lt hj
      simp [List.getD_eq_getElem?_getD, List.getElem?_append_right (show lo'.length ≤ ρ.length + j by omega), hl2, List.getElem?_append_left this, hj]] at h1
    exact h1
  have hoN : ∀ r ob, new[r]? = some ob → RB w' H2 F2 (ρ.length + gs.length + r) ob := fun r ob hj => by
    have h1 := hobs2 (ρ.length + gs.length + r)
    rw [show (lo' ++ (gs'.map gh1 ++ new)).getD (ρ.length + gs.length + r) .gone = ob by
      simp [List.getD_eq_getElem?_getD, List.getElem?_append_right (show lo'.length ≤ ρ.length + gs.length + r by omega), hl2, List.getElem?_append_right (show (gs'.map gh1).length ≤ gs.length + r by simp [hl3]), show ρ.length + gs.length + r - ρ.length = gs.length + r by omega, hl3, hj]] at h1
    exact h1
  have hoX : ∀ q, ρ.length + gs.length + new.length ≤ q → H2 q = .nil := fun q hq => by
    have h1 := hobs2 q
    rw [show (lo' ++ (gs'.map gh1 ++ new)).getD q .gone = .gone by rw [List.getD_eq_getElem?_getD, List.getElem?_eq_none (by simp; omega)]; rfl] at h1
    exact h1
  obtain ⟨H', hH'⟩ : ∃ H' : Hs, H' = fun p => match idxN ρ p 0 with | some q => H2 q | none => if st.objs.length ≤ p then H2 (ρ.length + gs.length + (p - st.objs.length)) else H p := ⟨_, rfl⟩
  have b1 : ∀ q p, ρ[q]? = some p → H' p = H2 q := fun q p hq => by
    rw [hH']
    cases hi : idxN ρ p 0 with
    | some q' =>
      obtain ⟨_, h2⟩ := idxN_ok ρ p 0 q' hi
      rw [Nat.sub_zero] at h2
      simp only [hi]
      rw [hinj q q' p hq h2]
    | none => exact absurd (getE_mem hq) (idxN_none ρ p 0 hi)
  have bn : ∀ p, p ∉ ρ → idxN ρ p 0 = none := fun p hp => by
    cases hi : idxN ρ p 0 with
    | none => rfl
    | some q' => exact absurd (getE_mem (idxN_ok ρ p 0 q' hi).2) hp
  have b2 : ∀ p, p ∉ ρ → p < st.objs.length → H' p = H p := fun p hp hlt => by
    rw [hH']
    simp only [bn p hp]
    rw [if_neg (by omega)]
  have b3 : ∀ r, H' (st.objs.length + r) = H2 (ρ.length + gs.length + r) := fun r => by
    have hp : st.objs.length + r ∉ ρ := fun hm => by have := hltN _ hm; omega
    rw [hH']
    simp only [bn _ hp]
    rw [if_pos (by omega), Nat.add_sub_cancel_left]
  -- where each piece comes from
  have hcase : ∀ p, (∃ q, H' p = H2 q ∧ (ρ[q]? = some p ∨ (st.objs.length ≤ p ∧ q = ρ.length + gs.length + (p - st.objs.length)))) ∨ (p ∉ ρ ∧ p < st.objs.length ∧ H' p = H p) := fun p => by
    by_cases hp : p ∈ ρ
    · obtain ⟨q, hq⟩ := List.getElem?_of_mem hp
      exact .inl ⟨q, b1 q p hq, .inl hq⟩
    · rcases Nat.lt_or_ge p st.objs.length with h1 | h1
      · exact .inr ⟨hp, h1, b2 p hp h1⟩
      · have h2 := b3 (p - st.objs.length)
        rw [show st.objs.length + (p - st.objs.length) = p by omega] at h2
        exact .inl ⟨_, h2, .inr ⟨h1, rfl⟩⟩
  have hfp2 : ∀ q b, b ∈ (H2 q).fp → (∃ p ∈ ρ, b ∈ (H p).fp) ∨ w.heap.size ≤ b := fun q b hb => by
    rcases hsi.org q b hb with ⟨q', h1⟩ | h1
    · obtain ⟨p, e1, e2⟩ := a3 q' b h1
      exact .inl ⟨p, getE_mem e1, e2⟩
    · exact .inr h1
  have hblk : ∀ b, b < w.heap.size → (∀ p ∈ ρ, b ∉ (H p).fp) → w'.heap[b]? = w.heap[b]? := fun b h1 h2 => hsi.keep b h1 fun q hq => by
    obtain ⟨p, e1, e2⟩ := a3 q b hq
    exact h2 p (getE_mem e1) e2
  have hold : ∀ p b, p ∉ ρ → b ∈ (H p).fp → w'.heap[b]? = w.heap[b]? := fun p b hp hb => hblk b (hr.ok.lt hb) fun r hr' hb' => hp (hr.ok.disj p r b hb hb' ▸ hr')
  have hok' : Ok w' H' F := by
    refine ⟨fun p => ?_, fun p => ?_, fun p r b h1 h2 => ?_, fun p b h1 h2 => ?_, fun b hb => Nat.lt_of_lt_of_le (hr.ok.flt b hb) hsi.size⟩
    · rcases hcase p with ⟨q, e, _⟩ | ⟨h1, _, e⟩
      · rw [e]; exact hok2.says q
      · rw [e]; exact Pc.frame (fun b hb => hold p b h1 hb) (hr.ok.says p)
    · rcases hcase p with ⟨q, e, _⟩ | ⟨_, _, e⟩
      · rw [e]; exact hok2.nodup q
      · rw [e]; exact hr.ok.nodup p
    · rcases hcase p with ⟨q, e, hq⟩ | ⟨n1, l1, e⟩ <;> rcases hcase r with ⟨q', e', hq'⟩ | ⟨n2, l2, e'⟩ <;> rw [e] at h1 <;> rw [e'] at h2
      · have := hok2.disj q q' b h1 h2
        subst this
        rcases hq with hq | ⟨hq, hq2⟩ <;> rcases hq' with hq' | ⟨hq', hq2'⟩
        · rw [hq] at hq'; exact Option.some.inj hq'
        · have := getE_lt hq; omega
        · have := getE_lt hq'; omega
        · omega
      · rcases hfp2 q b h1 with ⟨p', hp', hb'⟩ | hb'
        · have := hr.ok.disj p' r b hb' h2
          exact absurd (this ▸ hp') n2
        · have := hr.ok.lt h2; omega
      · rcases hfp2 q' b h2 with ⟨p', hp', hb'⟩ | hb'
        · have := hr.ok.disj p' p b hb' h1
          exact absurd (this ▸ hp') n1
        · have := hr.ok.lt h1; omega
      · exact hr.ok.disj p r b h1 h2
    · rcases hcase p with ⟨q, e, _⟩ | ⟨_, _, e⟩ <;> rw [e] at h1
      · rcases hfp2 q b h1 with ⟨p', hp', hb'⟩ | hb'
        · exact hr.ok.free p' b hb' h2
        · have := hr.ok.flt b h2; omega
      · exact hr.ok.free p b h1 h2
  have hng : ∀ q, (q < ρ.length ∨ ρ.length + gs.length ≤ q) → ∀ i v, H2 q ≠ .gh i v := fun q hq i v e => by
    rcases hq with hq | hq
    · obtain ⟨ob, _, h2, h3⟩ := hoL q hq
      exact (back_ng h2 h3).2 i v e
    · rcases Nat.lt_or_ge (q - (ρ.length + gs.length)) new.length with h1 | h1
      · have h2 := hoN _ _ (List.getElem?_eq_getElem h1)
        rw [show ρ.length + gs.length + (q - (ρ.length + gs.length)) = q by omega] at h2
        exact (back_ng (List.all_eq_true.1 hb2 _ (List.getElem_mem h1)) h2).2 i v e
      · rw [hoX q (by omega)] at e; cases e
  have htn : Turn w H w' H' (ρ ++ (List.range new.length).map (st.objs.length + ·)) := by
    refine ⟨hsi.os, hsi.tape, hsi.output, hsi.size, fun b h1 h2 => hblk b h1 fun p hp => h2 p (by simp [hp]), fun p hp => ?_, fun p b hb => ?_, fun p i v hp => ?_⟩
    · simp only [List.mem_append, List.mem_map, List.mem_range, not_or] at hp
      rcases hcase p with ⟨q, e, hq⟩ | ⟨_, _, e⟩
      · rcases hq with hq | ⟨hq, hq2⟩
        · exact absurd (getE_mem hq) hp.1
        · have h1 : ¬ p - st.objs.length < new.length := fun h => hp.2 ⟨_, h, by omega⟩
          rw [e, hoX q (by omega), hnilN p hq]
      · exact e
    · rcases hcase p with ⟨q, e, _⟩ | ⟨_, _, e⟩ <;> rw [e] at hb
      · rcases hfp2 q b hb with ⟨p', _, hb'⟩ | hb'
        · exact .inl ⟨p', hb'⟩
        · exact .inr hb'
      · exact .inl ⟨p, hb⟩
    · rcases hcase p with ⟨q, e, hq⟩ | ⟨_, _, e⟩ <;> rw [e] at hp
      · refine absurd hp (hng q ?_ i v)
        rcases hq with hq | ⟨_, hq⟩
        · exact .inl (getE_lt hq)
        · exact .inr (by omega)
      · exact ⟨p, hp⟩
  have hplace : ∀ p ∈ kq.map (fun k => ρ.getD ((plc k.2.2).getD 0) 0), Place (H p) (H' p) := by
    intro p hp
    obtain ⟨k, hk, rfl⟩ := List.mem_map.1 hp
    obtain ⟨jj, hjj⟩ := List.getElem?_of_mem hk
    have e1 := congrArg (·[jj]?) hk1
    have e2 := congrArg (·[jj]?) hk2
    have e3 := List.all_eq_true.1 hk3 k hk
    simp only [List.getElem?_map, hjj, Option.map_some, Option.some.injEq] at e1 e2
    obtain ⟨g, g1, g2⟩ := Option.bind_eq_some_iff.1 e1
    rw [g1] at e2
    obtain ⟨v, v1, v2⟩ := hoG k.1 g e2
    have hv : v = vs.getD g.1 undef := by
      obtain ⟨q', hq'⟩ := hsi.gh _ g.1 v v1
      rcases a4 q' g.1 v hq' with ⟨p', h1, h2⟩ | h1
      · exact absurd h2 ((hgok p' (getE_mem h1)).2 _ _)
      · exact h1
    have hent := hargs1 _ _ _ (hgsat _ g g1) (hvat _ _ (hgsat _ g g1))
    rw [← hv] at hent
    have hent := R2.cell hent g2
    have v2 := R2.cell v2 g2
    cases hpl : plc k.2.2 with
    | none => rw [hpl] at e3; cases e3
    | some q =>
      rw [hpl] at e3
      have hq : q < ρ.length := Nat.le_of_ble_eq_true e3
      have hqp : ρ[q]? = some (ρ.getD q 0) := by simp [List.getD_eq_getElem?_getD, hq]
      simp only [Option.getD_some]
      rw [b1 q _ hqp, ← a1 q _ hqp]
      cases hx : k.2.2 with
      | ref q' =>
        rw [hx] at hpl hent v2
        simp only [plc, Option.some.injEq] at hpl
        subst hpl
        obtain ⟨x1, f1, k1⟩ := hent
        obtain ⟨x2, f2, k2⟩ := v2
        exact .inl ⟨_, _, _, _, _, k1, k2⟩
      | ptr q' i =>
        rw [hx] at hpl hent v2
        simp only [plc, Option.some.injEq] at hpl
        subst hpl
        obtain ⟨g3, t3, vs3, k1, k2⟩ := hent
        obtain ⟨g4, t4, vs4, k3, k4⟩ := v2
        rw [k2] at k4
        simp only [Value.pointer.injEq, Option.some.injEq, Addr.mk.injEq] at k4
        obtain ⟨rfl, _⟩ := k4
        exact .inr ⟨_, _, _, _, _, k1, k3⟩
      | _ => rw [hx] at hpl; cases hpl
  have hpl : ∀ q, H2 q ≠ .nil → (∀ i v, H2 q ≠ .gh i v) → H' (phi ρ gs.length st.objs.length q) = H2 q := fun q h1 h2 => by
    unfold phi
    split
    · rename_i hq
      have hq := Nat.le_of_ble_eq_true hq
      exact b1 q _ (by simp [List.getD_eq_getElem?_getD, show q < ρ.length by omega])
    · rename_i hq
      have hq : ρ.length ≤ q := Nat.le_of_not_lt fun hlt => by rw [show Nat.blt q ρ.length = true from Nat.ble_eq_true_of_le hlt] at hq; cases hq
      have hq2 : ρ.length + gs.length ≤ q := by
        refine Nat.le_of_not_lt fun hlt => ?_
        have hj : q - ρ.length < gs'.length := by omega
        obtain ⟨v, v1, _⟩ := hoG (q - ρ.length) _ (List.getElem?_eq_getElem hj)
        rw [show ρ.length + (q - ρ.length) = q by omega] at v1
        exact h2 _ _ v1
      rw [b3, show ρ.length + gs.length + (q - (ρ.length + gs.length)) = q by omega]
  have hR := hr.mapk (V1.killw (ρ ++ (List.range new.length).map (st.objs.length + ·)) (kq.map fun k => ρ.getD ((plc k.2.2).getD 0) 0)) (fun x v hx => R1.killw hr.ok htn hplace hx) hok'
    (setL (st.objs.map (Ob.mapk (V1.killw (ρ ++ (List.range new.length).map (st.objs.length + ·)) (kq.map fun k => ρ.getD ((plc k.2.2).getD 0) 0)))) ρ (lo'.map (Ob.ren (phi ρ gs.length st.objs.length))) ++ new.map (Ob.ren (phi ρ gs.length st.objs.length))) (fun p => ?_)
  · have hR2 := hR.put (x := res.ren (phi ρ gs.length st.objs.length)) o.dst hd (v := rv) (plantwV hpl hcl hres)
    exact hK _ _ (h.h _ _ ⟨_, F, hR2, hsince.turn htn⟩)
  · have hsl : (setL (st.objs.map (Ob.mapk (V1.killw (ρ ++ (List.range new.length).map (st.objs.length + ·)) (kq.map fun k => ρ.getD ((plc k.2.2).getD 0) 0)))) ρ (lo'.map (Ob.ren (phi ρ gs.length st.objs.length)))).length = st.objs.length := by rw [setL_len]; simp
    rcases Nat.lt_or_ge p st.objs.length with h1 | h1
    · rw [List.getD_eq_getElem?_getD, List.getElem?_append_left (by rw [hsl]; exact h1), ← List.getD_eq_getElem?_getD]
      by_cases hp : p ∈ ρ
      · obtain ⟨q, hq⟩ := List.getElem?_of_mem hp
        obtain ⟨ob, k1, k2, k3⟩ := hoL q (getE_lt hq)
        rw [setL_in ρ _ _ q p (ob.ren (phi ρ gs.length st.objs.length)) hnd (fun r hr' => by simpa using hltN r hr') hq (by rw [List.getElem?_map, k1]; rfl)]
        exact plantwB hpl (b1 q p hq) k2 k3
      · rw [setL_out ρ _ _ p hp, List.getD_eq_getElem?_getD, List.getElem?_map, List.getElem?_eq_getElem h1]
        have h2 := hr.obs p
        rw [List.getD_eq_getElem?_getD, List.getElem?_eq_getElem h1] at h2
        exact RB.mapk (fun x v hx => R1.killw hr.ok htn hplace hx) (b2 p hp h1) h2
    · rw [List.getD_eq_getElem?_getD, List.getElem?_append_right (by rw [hsl]; exact h1), hsl, List.getElem?_map]
      have h2 := b3 (p - st.objs.length)
      rw [show st.objs.length + (p - st.objs.length) = p by omega] at h2
      cases hn : new[p - st.objs.length]? with
      | none => exact h2.trans (hoX _ (by have := List.getElem?_eq_none_iff.1 hn; omega))
      | some ob => exact plantwB hpl h2 (List.all_eq_true.1 hb2 ob (getE_mem hn)) (hoN _ ob hn)
/-- The same, in the form of a walk. -/
theorem M_lent {ts : List (Nat × V)} {obs : List Ob} {d : Nat} {f : FuncId} [hf : FunOk P f] {ass : Array Operand} {tys : Array TypeId} {args : List V2} {lo lo' new : List Ob} {gs : List (Nat × V2)} {res : V} (ρ : List Nat) (kq : List (Nat × Nat × V1)) (hc : Con P f (lo ++ gs.map gh1) args (lo' ++ (gs.map gh1 ++ new)) res) (ho : o.op = .call { callee := .value (.func f), args := ass, argTypes := tys }) (hg : o.guard = none)
    (hd : o.dst = some d) (hl : Nat.blt d n = true) (hρ : nodupB ρ = true) (hlt : ρ.all (fun p => Nat.blt p obs.length) = true) (hl1 : lo.length = ρ.length) (hl2 : lo'.length = ρ.length)
    (hlo : lo.map (Ob.ren (rho ρ obs.length)) = ρ.map fun p => obs.getD p .gone) (hgn : ρ.all (fun p => (obs.getD p .gone).back || (match obs.getD p .gone with | .box _ => true | _ => false)) = true) (ha : ass.toList.map (fun y => lendw obs ρ (St.ev ⟨n, ts, obs⟩ y)) = args)
    (hgs : gs.map (fun g => args[g.1]?) = gs.map (fun g => some g.2)) (hk1 : kq.map (fun k => gs[k.1]?.bind fun g => pickC g.2 k.2.1) = kq.map (fun k => some k.2.2)) (hk3 : kq.all (fun k => match plc k.2.2 with | some q => Nat.blt q ρ.length | none => false) = true)
    (hcl : res.closed = true) (hb1 : lo'.all Ob.back = true) (hb2 : new.all Ob.back = true)
    (h : AL P E ops QQ rest ⟨n, (d, res.ren (phi ρ gs.length obs.length)) :: (ts.map fun e => (e.1, e.2.mapk (V1.killw (ρ ++ (List.range new.length).map (obs.length + ·)) (kq.map fun k => ρ.getD ((plc k.2.2).getD 0) 0)))),
      setL (obs.map (Ob.mapk (V1.killw (ρ ++ (List.range new.length).map (obs.length + ·)) (kq.map fun k => ρ.getD ((plc k.2.2).getD 0) 0)))) ρ (lo'.map (Ob.ren (phi ρ gs.length obs.length))) ++ new.map (Ob.ren (phi ρ gs.length obs.length))⟩) : AL P E ops QQ (o :: rest) ⟨n, ts, obs⟩ := by
  have hk2 : kq.map (fun k => gs[k.1]?) = kq.map (fun k => gs[k.1]?) := rfl
  exact L_lent (st := ⟨n, ts, obs⟩) ρ kq ho hg hc hρ hlt hl1 hl2 rfl hlo hgn ha hgs hk1 hk2 hk3 hcl hb1 hb2 (by rw [hd]; exact hl) (by rw [hd]; exact h)
end
end Go.Proofs.YtkfnaniegldfaaaDoor
end

section
set_option linter.unusedSimpArgs false
set_option linter.unusedVariables false
set_option maxRecDepth 4096
namespace Go.Proofs.YtkfnaniegldfaaaDoor
open Go.RowKit

def dig : Nat → Int → List UInt8 → List UInt8
  | 0, _, out => out
  | n + 1, k, out => if 0 < k then dig n (k / 10) ([UInt8.ofNat (48 + k % 10).toNat] ++ out) else out
def mtext (k : Int) : ByteArray := bs (if k ≤ 0 then [109, 48] else 109 :: dig 19 k [])
theorem dig_end {n : Nat} {k : Int} {out : List UInt8} (h : ¬ 0 < k) : dig n k out = out := by
  cases n with
  | zero => rfl
  | succ n => rw [dig, if_neg h]
set_option maxHeartbeats 8000000 in
theorem L_markText (k : Int) (hk : k ≤ 1099511627776) : Con Tryd.prog 51 [] [ai k] [] (S (mtext k)) := by
  refine Con.of Tryd.func51 rfl Tryd.ntmps51 rfl (fun E => ?_)
  refine A_seq ?_; refine A_region ?_; refine M0 (q_assignC rfl rfl rfl) rfl rfl ?_; refine L_nil ?_; refine T_n ?_; refine A_seq ?_; refine A_seq ?_; refine A_region ?_
  refine M0 (q_moveC rfl rfl rfl) rfl rfl ?_; refine M0 (q_leq rfl rfl rfl rfl) rfl rfl ?_; refine L_nil ?_; refine T_n ?_
  refine A_cond rfl (fun h => ?_) (fun h => ?_)
  · have h := of_decide_eq_true h
    refine A_seq ?_; refine A_region ?_; refine M0 (q_assignC rfl rfl rfl) rfl rfl ?_; refine L_nil ?_; refine T_n ?_; refine A_ret ?_; refine T_r ?_; refine F_r ?_
    exact E_tmp rfl rfl (W_end [] (by decide) rfl rfl (S_eq (by rw [mtext, if_pos h])))
  have h := of_decide_eq_false h
  rw [mtext, if_neg h]
  refine A_skip ?_; refine T_n ?_; refine A_seq ?_; refine A_region ?_; refine M0 (q_assignC rfl rfl rfl) rfl rfl ?_; refine L_nil ?_; refine T_n ?_; refine A_seq ?_; refine A_block ?_
  refine A_loop (fun m__ st => ∃ (j : Int) (out : List UInt8), j.toNat = m__ ∧ (∃ n, 0 ≤ j ∧ j ≤ 1099511627776 ∧ j < 10 ^ n ∧ out.length + n = 19 ∧ dig n j out = dig 19 k []) ∧ st = (fun (j : Int) (out : List UInt8) => (⟨_, [(0, I j), (3, S (bs out))], []⟩ : St)) (j) (out)) ((fun (j : Int) (out : List UInt8) => j.toNat) (k) ([])) ⟨(fun (j : Int) (out : List UInt8) => (⟨_, [(0, I j), (3, S (bs out))], []⟩ : St)) (k) ([]), W_go [] (by decide) rfl (rfl) (.cons rfl (.cons rfl (.nil))), k, [], rfl, ⟨19, by omega, hk, by omega, rfl, rfl⟩, rfl⟩ ?_
  rintro m_A _ ⟨j, out, hk_A, hp_A, rfl⟩
  obtain ⟨n, a0, a1, a2, a3, a4⟩ := hp_A
  refine A_seq ?_; refine A_seq ?_; refine A_region ?_; refine M0 (q_moveC rfl rfl rfl) rfl rfl ?_; refine M0 (q_gtr rfl rfl rfl rfl) rfl rfl ?_; refine L_nil ?_; refine T_n ?_
  refine A_cond rfl (fun h => ?_) (fun h => ?_)
  · have h := of_decide_eq_true h
    have hl := bs_size out
    refine A_skip ?_; refine T_n ?_; refine A_block ?_; refine A_seq ?_; refine A_region ?_; refine M0 (q_moveC rfl rfl rfl) rfl rfl ?_; refine M0 (q_rem rfl rfl rfl rfl (by omega)) rfl rfl ?_
    refine M0 (q_add rfl rfl rfl rfl (by omega)) rfl rfl ?_; refine M0 (q_convI rfl rfl rfl rfl (wrap_u8_in (by omega))) rfl rfl ?_; refine M1 (q_bslice rfl rfl rfl rfl rfl rfl) rfl rfl ?_
    refine M0 (q_bstrb rfl rfl rfl rfl rfl) rfl rfl ?_; refine M0 (q_moveC rfl rfl rfl) rfl rfl ?_
    refine M0 (q_cat rfl rfl rfl rfl (by simp only [bs_size, cat_size, List.length_cons, List.length_nil, List.length_append]; omega)) rfl rfl ?_
    refine M0 (q_assignC rfl rfl rfl) rfl rfl ?_; refine L_nil ?_; refine T_n ?_; refine A_region ?_; refine M0 (q_moveC rfl rfl rfl) rfl rfl ?_
    refine M0 (q_quo rfl rfl rfl rfl (by omega)) rfl rfl ?_; refine M0 (q_assignC rfl rfl rfl) rfl rfl ?_; refine L_nil ?_; refine B_n ?_; refine T_n ?_
    obtain ⟨n, rfl⟩ : ∃ n', n = n' + 1 := ⟨n - 1, by have : n ≠ 0 := fun e => by { subst e; simp at a2; omega }; omega⟩
    rw [dig, if_pos h] at a4
    rw [Int.pow_succ] at a2
    refine ⟨(j / 10).toNat, (by omega), (fun (j : Int) (out : List UInt8) => (⟨_, [(0, I j), (3, S (bs out))], []⟩ : St)) (j / 10) ([UInt8.ofNat (48 + j % 10).toNat] ++ out), W_go [] (by decide) rfl (rfl) (.cons rfl (.cons (S_eq (bs_app [_] _)) (.nil))), j / 10, [UInt8.ofNat (48 + j % 10).toNat] ++ out, rfl, ⟨n, by omega, by omega, by omega, by simp only [List.length_append, List.length_cons, List.length_nil]; omega, a4⟩, rfl⟩
  · have h := of_decide_eq_false h
    have hl := bs_size out
    rw [dig_end h] at a4
    refine A_exit ?_; refine T_x ?_; refine T_x ?_; refine B_xs ?_; refine T_n ?_; refine A_seq ?_; refine A_region ?_; refine M0 (q_moveC rfl rfl rfl) rfl rfl ?_
    refine M0 (q_cat rfl rfl rfl rfl (by simp only [bs_size, cat_size, List.length_cons, List.length_nil, List.length_append]; omega)) rfl rfl ?_
    refine M0 (q_assignC rfl rfl rfl) rfl rfl ?_; refine L_nil ?_; refine T_n ?_; refine A_ret ?_; refine F_r ?_
    exact E_tmp rfl rfl (W_end [] (by decide) rfl rfl (S_eq (by rw [← a4]; exact bs_app [_] _)))

/-- What is written into a slice of strings from k on, and whether it stands there. -/
def markS (xs : List ByteArray) (k : Int) : List ByteArray := (List.range xs.length).map fun (i : Nat) => mtext (k + i)
theorem markS_len (xs : List ByteArray) (k : Int) : (markS xs k).length = xs.length := by simp [markS]
theorem row2 {k : Nat} {a b : List (List T)} {g : Ob} (h : a = b) : [Ob.row k a, g] = [Ob.row k b, g] := by rw [h]
theorem els_set {α : Type} [Enc α] (xs : List α) (i : Nat) (x : α) : els (xs.set i x) = (els xs).set i (Enc.e x) := by simp [els, List.map_set]
theorem mark_next {xs : List ByteArray} {k : Int} {i : Nat} {e : List T} (h : i < xs.length) (he : e.length = 1 := by rfl) : els ((markS xs k).take (i + 1) ++ xs.drop (i + 1)) = (els ((markS xs k).take i ++ xs.drop i)).set i (splice e 0 [.v (.string (mtext (k + i)))]) := by
  have h1 : splice e 0 [T.v (.string (mtext (k + i)))] = Enc.e (mtext (k + i)) := by
    match e, he with
    | [t], _ => rfl
  have h2 : i < (markS xs k).length := by rw [markS_len]; exact h
  have h3 : (markS xs k)[i] = mtext (k + i) := by simp [markS]
  rw [h1, ← els_set]
  congr 1
  rw [List.take_succ_eq_append_getElem h2, h3, List.set_append_right _ _ (by simp [markS_len]; omega)]
  have : i - ((markS xs k).take i).length = 0 := by simp [markS_len]; omega
  rw [this, List.drop_eq_getElem_cons h, List.set_cons_zero, List.append_assoc]
  rfl
set_option maxHeartbeats 8000000 in
theorem L_markStringS (xs : List ByteArray) (k : Int) (hL : xs.length ≤ 1048576) (h0 : 0 < k) (hk : k ≤ 4294967296) : Con Tryd.prog 20 [.row 1 (els xs), .gh 0 (.c (.ref 0))] [.c (.ref 0), ai k] [.row 1 (els (markS xs k)), .gh 0 (.c (.ref 0))] (I (k + xs.length)) := by
  have hlx := els_len xs
  refine Con.of Tryd.func20 rfl Tryd.ntmps20 rfl (fun E => ?_)
  refine A_seq ?_; refine A_region ?_; refine M0 (q_assignC rfl rfl rfl) rfl rfl ?_; refine L_nil ?_; refine T_n ?_; refine A_seq ?_; refine A_seq ?_; refine A_region ?_
  refine M0 (q_assignC rfl rfl rfl) rfl rfl ?_; refine L_nil ?_; refine T_n ?_; refine A_block ?_
  refine A_loop (fun m st => ∃ i : Nat, i + m = xs.length ∧ (True) ∧ st = (fun i : Nat => (⟨_, [(0, .o (.c (.ref 0))), (1, I (k + i)), (5, I i)], [.row 1 (els ((markS xs k).take i ++ xs.drop i)), .gh 0 (.c (.ref 0))]⟩ : St)) i) (xs.length) ⟨(fun i : Nat => (⟨_, [(0, .o (.c (.ref 0))), (1, I (k + i)), (5, I i)], [.row 1 (els ((markS xs k).take i ++ xs.drop i)), .gh 0 (.c (.ref 0))]⟩ : St)) 0, W_go [0, 1] (by decide) rfl (rfl) (.cons rfl (.cons (I_eq (by omega)) (.cons rfl (.nil)))), 0, by omega, trivial, rfl⟩ ?_
  rintro m_A _ ⟨i, hk_A, hp_A, rfl⟩
  have hl2 : (els ((markS xs k).take i ++ xs.drop i)).length = xs.length := by rw [els_len]; simp [markS_len]; omega
  refine A_seq ?_; refine A_seq ?_; refine A_region ?_; refine M0 (q_moveC rfl rfl rfl) rfl rfl ?_; refine M0 (q_moveC rfl rfl rfl) rfl rfl ?_; refine M0 (q_lenr rfl rfl rfl rfl) rfl rfl ?_
  refine M0 (q_lss rfl rfl rfl rfl) rfl rfl ?_; refine L_nil ?_; refine T_n ?_
  refine A_cond rfl (fun h => ?_) (fun h => ?_)
  · have h3 : i < xs.length := by have := of_decide_eq_true h; omega
    have hi : i < ((markS xs k).take i ++ xs.drop i).length := by simp [markS_len]; omega
    have hat := els_at hi
    refine A_skip ?_; refine T_n ?_; refine A_seq ?_; refine A_block ?_; refine A_seq ?_; refine A_region ?_; refine M0 (q_moveC rfl rfl rfl) rfl rfl ?_; refine M0 (q_moveC rfl rfl rfl) rfl rfl ?_
    refine M0 (q_moveC rfl rfl rfl) rfl rfl ?_; refine M0 (q_call0 rfl rfl (L_markText (k + i) (by omega)) rfl) rfl rfl ?_
    refine M0 (q_ar rfl rfl rfl rfl rfl (by omega) (by omega)) rfl rfl ?_; refine M_ste1 rfl rfl rfl rfl rfl rfl rfl rfl rfl (by assumption) rfl rfl ?_; refine L_nil ?_; refine T_n ?_
    refine A_region ?_; refine M0 (q_moveC rfl rfl rfl) rfl rfl ?_; refine M0 (q_add rfl rfl rfl rfl (by omega)) rfl rfl ?_; refine M0 (q_assignC rfl rfl rfl) rfl rfl ?_; refine L_nil ?_
    refine B_n ?_; refine T_n ?_; refine A_region ?_; refine M0 (q_moveC rfl rfl rfl) rfl rfl ?_; refine M0 (q_add rfl rfl rfl rfl (by omega)) rfl rfl ?_
    refine M0 (q_assignC rfl rfl rfl) rfl rfl ?_; refine L_nil ?_; refine T_n ?_
    exact ⟨xs.length - (i + 1), by omega, (fun i : Nat => (⟨_, [(0, .o (.c (.ref 0))), (1, I (k + i)), (5, I i)], [.row 1 (els ((markS xs k).take i ++ xs.drop i)), .gh 0 (.c (.ref 0))]⟩ : St)) (i + 1), W_go [0, 1] (by decide) rfl (row2 (mark_next h3)) (.cons rfl (.cons (I_eq (by omega)) (.cons rfl (.nil)))), i + 1, by omega, trivial, rfl⟩
  · have h3 : ¬ ((i : Int) < (els ((markS xs k).take i ++ xs.drop i)).length) := of_decide_eq_false h
    have hi : i = xs.length := by omega
    have hm : (markS xs k).take i ++ xs.drop i = markS xs k := by rw [List.take_of_length_le (by rw [markS_len]; omega), List.drop_of_length_le (by omega), List.append_nil]
    refine A_exit ?_; refine T_x ?_; refine T_x ?_; refine B_xs ?_; refine T_n ?_; refine A_seq ?_; refine A_region ?_; refine M0 (q_moveC rfl rfl rfl) rfl rfl ?_
    refine M0 (q_assignC rfl rfl rfl) rfl rfl ?_; refine L_nil ?_; refine T_n ?_; refine A_ret ?_; refine F_r ?_
    exact E_tmp rfl rfl (W_end [0, 1] (by decide) rfl (row2 (by rw [hm])) (I_eq (by omega)))
set_option maxHeartbeats 8000000 in
theorem L_heldStringS (xs : List ByteArray) (k : Int) (hL : xs.length ≤ 1048576) (h0 : 0 < k) (hk : k ≤ 4294967296) : Con Tryd.prog 21 [] [al (markS xs k), ai k] [] (I (k + xs.length)) := by
  have hlx := els_len (markS xs k)
  rw [markS_len] at hlx
  refine Con.of Tryd.func21 rfl Tryd.ntmps21 rfl (fun E => ?_)
  refine A_seq ?_; refine A_region ?_; refine M0 (q_assignC rfl rfl rfl) rfl rfl ?_; refine L_nil ?_; refine T_n ?_; refine A_seq ?_; refine A_seq ?_; refine A_region ?_
  refine M0 (q_assignC rfl rfl rfl) rfl rfl ?_; refine L_nil ?_; refine T_n ?_; refine A_block ?_
  refine A_loop (fun m st => ∃ i : Nat, i + m = xs.length ∧ (True) ∧ st = (fun i : Nat => (⟨_, [(0, L (markS xs k)), (1, I (k + i)), (5, I i)], []⟩ : St)) i) (xs.length) ⟨(fun i : Nat => (⟨_, [(0, L (markS xs k)), (1, I (k + i)), (5, I i)], []⟩ : St)) 0, W_go [] (by decide) rfl (rfl) (.cons rfl (.cons (I_eq (by omega)) (.cons rfl (.nil)))), 0, by omega, trivial, rfl⟩ ?_
  rintro m_A _ ⟨i, hk_A, hp_A, rfl⟩
  refine A_seq ?_; refine A_seq ?_; refine A_region ?_; refine M0 (q_moveC rfl rfl rfl) rfl rfl ?_; refine M0 (q_moveC rfl rfl rfl) rfl rfl ?_; refine M0 (q_len rfl rfl rfl) rfl rfl ?_
  refine M0 (q_lss rfl rfl rfl rfl) rfl rfl ?_; refine L_nil ?_; refine T_n ?_
  refine A_cond rfl (fun h => ?_) (fun h => ?_)
  · have h3 : i < xs.length := by have := of_decide_eq_true h; omega
    have hi : i < (markS xs k).length := by rw [markS_len]; exact h3
    have hat := els_at hi
    have hx : (markS xs k)[i] = mtext (k + i) := by simp [markS]
    rw [hx] at hat
    have hne : decide (mtext (k + i) ≠ mtext (k + i)) = false := by simp
    refine A_skip ?_; refine T_n ?_; refine A_seq ?_; refine A_block ?_; refine A_seq ?_; refine A_seq ?_
    refine A_draw [[], [], [0, 1], [0, 1, 2], [], [4], [0, 1, 2, 3, 4, 5]] [[], [], [12, 13], [12, 13, 14], [], [16], [12, 13, 14, 15, 16, 17]] [[13, 16, 17], [12, 16, 17], [16, 17], [16, 17], [12, 13, 14, 15], [12, 13, 14, 15], []] rfl ?_
    refine DR.step (q_moveC rfl rfl rfl) rfl rfl ?_; refine DR.step (q_moveC rfl rfl rfl) rfl rfl ?_; refine DR.step (q_at rfl rfl rfl rfl (by omega) (by assumption) rfl) rfl rfl ?_
    refine DR.step (q_lr1 rfl rfl rfl rfl) rfl rfl ?_; refine DR.step (q_moveC rfl rfl rfl) rfl rfl ?_; refine DR.step (q_call0 rfl rfl (L_markText (k + i) (by omega)) rfl) rfl rfl ?_
    refine DR.step (q_sneqK rfl rfl rfl rfl (by assumption)) rfl rfl ?_; refine DR.stop (by kernel_rfl) (by kernel_rfl) ?_
    refine L_nil ?_; refine T_n ?_; refine A_ifF rfl ?_; refine A_skip ?_; refine T_n ?_; refine A_region ?_; refine M0 (q_moveC rfl rfl rfl) rfl rfl ?_
    refine M0 (q_add rfl rfl rfl rfl (by omega)) rfl rfl ?_; refine M0 (q_assignC rfl rfl rfl) rfl rfl ?_; refine L_nil ?_; refine B_n ?_; refine T_n ?_; refine A_region ?_
    refine M0 (q_moveC rfl rfl rfl) rfl rfl ?_; refine M0 (q_add rfl rfl rfl rfl (by omega)) rfl rfl ?_; refine M0 (q_assignC rfl rfl rfl) rfl rfl ?_; refine L_nil ?_; refine T_n ?_
    exact ⟨xs.length - (i + 1), by omega, (fun i : Nat => (⟨_, [(0, L (markS xs k)), (1, I (k + i)), (5, I i)], []⟩ : St)) (i + 1), W_go [] (by decide) rfl (rfl) (.cons rfl (.cons (I_eq (by omega)) (.cons rfl (.nil)))), i + 1, by omega, trivial, rfl⟩
  · have h3 : ¬ ((i : Int) < (els (markS xs k)).length) := of_decide_eq_false h
    refine A_exit ?_; refine T_x ?_; refine T_x ?_; refine B_xs ?_; refine T_n ?_; refine A_seq ?_; refine A_region ?_; refine M0 (q_moveC rfl rfl rfl) rfl rfl ?_
    refine M0 (q_assignC rfl rfl rfl) rfl rfl ?_; refine L_nil ?_; refine T_n ?_; refine A_ret ?_; refine F_r ?_
    exact E_tmp rfl rfl (W_end [] (by decide) rfl rfl (I_eq (by omega)))
set_option maxHeartbeats 8000000 in
theorem L_markLevel (xs : List ByteArray) (k : Int) (hL : xs.length ≤ 1048576) (h0 : 0 < k) (hk : k ≤ 4294967296) : Con Tryd.prog 48 [.row 1 (els xs), .gh 0 (.ag [.ref 0])] [.ag [.ref 0], ai k] [.row 1 (els (markS xs k)), .gh 0 (.ag [.ref 0])] (I (k + xs.length)) := by
  refine Con.of Tryd.func48 rfl Tryd.ntmps48 rfl (fun E => ?_)
  refine A_seq ?_; refine A_region ?_; refine M1 (q_boxN rfl rfl rfl rfl) rfl rfl ?_; refine M0 (q_assignC rfl rfl rfl) rfl rfl ?_; refine L_nil ?_; refine T_n ?_; refine A_seq ?_
  refine A_region ?_; refine M0 (q_fldp rfl rfl rfl rfl (by decide)) rfl rfl ?_; refine M0 (q_ld1 rfl rfl rfl rfl rfl) rfl rfl ?_; refine M0 (q_moveC rfl rfl rfl) rfl rfl ?_
  refine M_lent (lo := [_]) (gs := [(0, .c (.ref 0))]) (lo' := [_]) (new := []) [0] [(0, 0, .ref 0)] (L_markStringS xs k hL h0 hk) rfl rfl rfl rfl rfl rfl rfl rfl rfl rfl rfl rfl rfl rfl rfl rfl rfl ?_
  refine M0 (q_assignC rfl rfl rfl) rfl rfl ?_; refine L_nil ?_; refine T_n ?_; refine A_seq ?_; refine A_region ?_; refine M0 (q_moveC rfl rfl rfl) rfl rfl ?_
  refine M0 (q_assignC rfl rfl rfl) rfl rfl ?_; refine L_nil ?_; refine T_n ?_; refine A_ret ?_; refine F_r ?_
  exact E_tmp rfl rfl (W_end [0, 1] (by decide) rfl rfl rfl)
end Go.Proofs.YtkfnaniegldfaaaDoor
end

section
set_option linter.unusedSimpArgs false
set_option linter.unusedVariables false
namespace Go.Proofs.YtkfnaniegldfaaaDoor
open Go.RowKit

theorem flat_one {fps : List (List (List Nat))} {i j : Nat} {G : List (List Nat)} {f : List Nat} (hi : fps[i]? = some G) (hj : G[j]? = some f) : ∃ X Z : List Nat, fps.flatten.flatten = X ++ f ++ Z ∧ ∀ f' : List Nat, (fps.set i (splice G j [f'])).flatten.flatten = X ++ f' ++ Z := by
  obtain ⟨hlt, he⟩ := List.getElem?_eq_some_iff.1 hi
  obtain ⟨hlj, hf⟩ := List.getElem?_eq_some_iff.1 hj
  refine ⟨(fps.take i).flatten.flatten ++ (G.take j).flatten, (G.drop (j + 1)).flatten ++ (fps.drop (i + 1)).flatten.flatten, ?_, fun f' => ?_⟩
  · conv => lhs; rw [← List.take_append_drop i fps, List.drop_eq_getElem_cons hlt, he]
    have hG : G.flatten = (G.take j).flatten ++ f ++ (G.drop (j + 1)).flatten := by
      conv => lhs; rw [← List.take_append_drop j G, List.drop_eq_getElem_cons hlj, hf]
      simp [List.append_assoc]
    rw [List.flatten_append, List.flatten_cons, List.flatten_append, List.flatten_append, hG]
    simp [List.append_assoc]
  · rw [List.set_eq_take_append_cons_drop, if_pos hlt]
    rw [List.flatten_append, List.flatten_cons, List.flatten_append, List.flatten_append, splice, List.flatten_append, List.flatten_append]
    simp [List.append_assoc]

/-- cells of one list, parts of different lists: nothing in common -/
theorem sep_list {l : List (List Nat)} (hn : l.flatten.Nodup) {i j : Nat} {f g : List Nat} (hi : l[i]? = some f) (hj : l[j]? = some g) (hij : i ≠ j) {x : Nat} (hx : x ∈ f) (hy : x ∈ g) : False := by
  obtain ⟨hp, hq⟩ := List.pairwise_flatten.1 hn
  obtain ⟨h1, rfl⟩ := List.getElem?_eq_some_iff.1 hi
  obtain ⟨h2, rfl⟩ := List.getElem?_eq_some_iff.1 hj
  rcases Nat.lt_or_gt_of_ne hij with h | h
  · exact (List.pairwise_iff_getElem.1 hq i j h1 h2 h) x hx x hy rfl
  · exact (List.pairwise_iff_getElem.1 hq j i h2 h1 h) x hy x hx rfl
theorem sep_elems {fps : List (List (List Nat))} (hn : fps.flatten.flatten.Nodup) {i i' j j' : Nat} {G G' : List (List Nat)} {f g : List Nat} (hi : fps[i]? = some G) (hi' : fps[i']? = some G') (hii : i ≠ i') (hf : G[j]? = some f) (hg : G'[j']? = some g) {x : Nat} (hx : x ∈ f) (hy : x ∈ g) : False := by
  have h1 : (fps.map List.flatten).flatten = fps.flatten.flatten := by simp [List.flatten_flatten]
  rw [← h1] at hn
  exact sep_list hn (i := i) (j := i') (f := G.flatten) (g := G'.flatten) (by simp [hi]) (by simp [hi']) hii (List.mem_flatten.2 ⟨f, getE_mem hf, hx⟩) (List.mem_flatten.2 ⟨g, getE_mem hg, hy⟩)
theorem sep_cells {fps : List (List (List Nat))} (hn : fps.flatten.flatten.Nodup) {i j j' : Nat} {G : List (List Nat)} {f g : List Nat} (hi : fps[i]? = some G) (hf : G[j]? = some f) (hg : G[j']? = some g) (hjj : j ≠ j') {x : Nat} (hx : x ∈ f) (hy : x ∈ g) : False := by
  have h1 : (fps.map List.flatten).flatten = fps.flatten.flatten := by simp [List.flatten_flatten]
  rw [← h1] at hn
  obtain ⟨hp, _⟩ := List.pairwise_flatten.1 hn
  exact sep_list (hp G.flatten (List.mem_map.2 ⟨G, getE_mem hi, rfl⟩)) hf hg hjj hx hy

theorem OW.inner {w : World} {k : Nat} {es : List (List T)} {v : Value} {fp : List Nat} (h : OW w (.sl k es) v fp) (hnd : fp.Nodup) {i j k' : Nat} {e : List T} {es0 : List (List T)} (hi : es[i]? = some e) (hj : e[j]? = some (.sl k' es0)) :
    ∃ b o c u f, v = .slice (some ⟨b, o, none⟩) es.length c ∧ b ∈ fp ∧ w.cell? ⟨b, o + i * k + j, none⟩ = some u ∧ OW w (.sl k' es0) u f ∧ f.Nodup ∧ (∀ x ∈ f, x ∈ fp) ∧
      ∀ (w' : World) (t1 : T) (f' : List Nat), (∀ x ∈ fp, x ∉ f → w'.heap[x]? = w.heap[x]?) → OW w' t1 u f' → f'.Nodup → (∀ x ∈ f', x ∈ f ∨ w.heap.size ≤ x) → (∀ x ∈ fp, x < w.heap.size) →
        ∃ fp', OW w' (.sl k (es.set i (splice e j [t1]))) v fp' ∧ fp'.Nodup ∧ ∀ x ∈ fp', (x ∈ fp ∧ x ∉ f) ∨ x ∈ f' := by
  rcases h.open_ with ⟨rfl, rfl, rfl⟩ | ⟨b, o, c, tid, cur, fz, val, fps, rfl, rfl, hg, hz, hc, hcm, hcs, hp, hk, hff, hfk, hv, ht⟩
  · simp at hi
  have hil := getE_lt hi
  have hek : e.length = k := hk e (getE_mem hi)
  have hjl := getE_lt hj
  rw [hek] at hjl
  have hfi : fps[i]? = some fps[i] := List.getElem?_eq_getElem (by omega)
  have hfik : (fps[i]'(by omega)).length = k := hfk _ (List.getElem_mem _)
  obtain ⟨G, hG⟩ : ∃ G, G = fps[i]'(by omega) := ⟨_, rfl⟩
  rw [← hG] at hfi hfik
  obtain ⟨f, hf⟩ : ∃ f, G[j]? = some f := ⟨_, List.getElem?_eq_getElem (by omega)⟩
  obtain ⟨X, Z, e1, e2⟩ := flat_one hfi hf
  have hndc := List.nodup_cons.1 hnd
  have hndf := hndc.2
  rw [e1] at hndf
  obtain ⟨n1, n2, n3⟩ := List.nodup_append.1 hndf
  obtain ⟨n4, n5, n6⟩ := List.nodup_append.1 n1
  have hbf : b ∉ f := fun hb => hndc.1 (mem_ff hfi hf hb)
  refine ⟨b, o, c, val i j, f, rfl, by simp, ?_, ht i j e _ G f hi hj hfi hf, n5, fun x hx => List.mem_cons_of_mem _ (mem_ff hfi hf hx), fun w' t1 f' hw hO hn' hf' hlt => ?_⟩
  · rw [cell_of_row w b _ cur tid fz hg]
    exact hv i j hil hjl
  have hset : (es.set i (splice e j [t1])).length = es.length := by simp
  have hfr : ∀ (i' j' : Nat) (e' : List T) (t : T) (fs : List (List Nat)) (g : List Nat), es[i']? = some e' → e'[j']? = some t → fps[i']? = some fs → fs[j']? = some g → (∀ x ∈ g, x ∉ f) → OW w' t (val i' j') g := fun i' j' e' t fs g g1 g2 g3 g4 hd =>
    (ht i' j' e' t fs g g1 g2 g3 g4).frame fun x hx => hw x (List.mem_cons_of_mem _ (mem_ff g3 g4 hx)) (hd x hx)
  have hold : ∀ x ∈ X ++ f ++ Z, x < w.heap.size := fun x hx => hlt x (List.mem_cons_of_mem _ (by rw [e1]; exact hx))
  have hdX : ∀ x ∈ X, x ∉ f' := fun x hx hx' => by
    rcases hf' x hx' with h1 | h1
    · exact n6 x hx x h1 rfl
    · have := hold x (by simp [hx]); omega
  have hdZ : ∀ x ∈ Z, x ∉ f' := fun x hx hx' => by
    rcases hf' x hx' with h1 | h1
    · exact n3 x (by simp [h1]) x hx rfl
    · have := hold x (by simp [hx]); omega
  refine ⟨b :: (fps.set i (splice G j [f'])).flatten.flatten, ?_, ?_, ?_⟩
  · rw [← hset]
    refine .sl _ b o k c tid cur fz val _ (by rw [hw b (by simp) hbf]; exact hg) hz (by rw [hset]; exact hc) hcm hcs hp ?_ (by simp [hff]) ?_ (fun i' j' hi' hj' => hv i' j' (by rw [← hset]; exact hi') hj') fun i' j' e' t' fs' g' g1 g2 g3 g4 => ?_
    · intro e' he'
      rcases List.mem_or_eq_of_mem_set he' with he' | rfl
      · exact hk e' he'
      · rw [splice_len (by simp; omega), hek]
    · intro g hg'
      rcases List.mem_or_eq_of_mem_set hg' with hg' | rfl
      · exact hfk g hg'
      · rw [splice_len (by simp; omega), hfik]
    · rw [List.getElem?_set] at g1 g3
      by_cases hii : i = i'
      · subst hii
        simp only [hil, if_true, Option.some.injEq] at g1
        rw [if_pos rfl, if_pos (by omega)] at g3
        simp only [Option.some.injEq] at g3
        subst g1 g3
        rw [splice_at (by simp; omega)] at g2 g4
        by_cases hcond : j ≤ j' ∧ j' < j + 1
        · have hjj : j' = j := by omega
          subst hjj
          rw [if_pos (by simp)] at g2 g4
          simp at g2 g4
          subst g2 g4
          exact hO
        · rw [if_neg (by simpa using hcond)] at g2 g4
          refine hfr i j' e t' G g' hi g2 hfi g4 fun x hx hxf => ?_
          -- two cells of one element own different blocks
          obtain ⟨X2, Z2, e3, e4⟩ := flat_one hfi g4
          exact sep_cells hndc.2 hfi hf g4 (fun e => hcond ⟨by omega, by omega⟩) hxf hx
      · rw [if_neg hii] at g1 g3
        refine hfr i' j' e' t' fs' g' g1 g2 g3 g4 fun x hx hxf => ?_
        exact sep_elems hndc.2 hfi g3 hii hf g4 hxf hx
  · rw [e2]
    refine List.nodup_cons.2 ⟨fun hb => ?_, List.nodup_append.2 ⟨List.nodup_append.2 ⟨n4, hn', fun x hx y hy e => hdX x hx (e ▸ hy)⟩, n2, fun x hx y hy e => ?_⟩⟩
    · rcases List.mem_append.1 hb with hb | hb
      · rcases List.mem_append.1 hb with hb | hb
        · exact hndc.1 (by rw [e1]; simp [hb])
        · rcases hf' b hb with h1 | h1
          · exact hbf h1
          · have := hlt b (by simp); omega
      · exact hndc.1 (by rw [e1]; simp [hb])
    · rcases List.mem_append.1 hx with hx | hx
      · exact n3 x (by simp [hx]) y hy e
      · exact hdZ y hy (e ▸ hx)
  · rw [e2, e1]
    intro x hx
    rcases List.mem_cons.1 hx with rfl | hx
    · exact .inl ⟨by simp, hbf⟩
    · rcases List.mem_append.1 hx with hx | hx
      · rcases List.mem_append.1 hx with hx | hx
        · exact .inl ⟨by simp [hx], fun h => n6 x hx x h rfl⟩
        · exact .inr hx
      · exact .inl ⟨by simp [hx], fun h => n3 x (by simp [h]) x hx rfl⟩

section
variable {P : Program} {E : Env} {ops : Array Oper} {o : Oper} {st : St} {rest : List Oper} {QQ : Exit → St → Prop} {w : World} {H : Hs} {F : Nat → Prop} {a : Act} {t : TypeId} {y : Operand} {n : Nat}
end
end Go.Proofs.YtkfnaniegldfaaaDoor
end

section
set_option linter.unusedVariables false
namespace Go.Proofs.YtkfnaniegldfaaaDoor
open Go.RowKit

section
variable {P : Program} {ops : Array Oper} {o : Oper} {st : St} {m : Nat} {t t' : TypeId} {y z : Operand} {ps qs : List Nat}
theorem q_neqR {k : IntKind} {u : Int} (ho : o.op = .binOp .neq t y z t') (hg : o.guard = none) (hy : st.ev y = .o (.c (.rd ps (.v (.int k u))))) (hz : st.ev z = .o (.c (.rd qs (.v (.int k u))))) : Qt P ops o st (B false) [] m :=
  q_neqK ho hg hy hz (by simp)
end
end Go.Proofs.YtkfnaniegldfaaaDoor
end

section
set_option linter.unusedSimpArgs false
set_option linter.unusedVariables false
namespace Go.Proofs.YtkfnaniegldfaaaDoor
open Go.RowKit

theorem mk_next {α : Type} [Enc α] {ms xs : List α} (hl : ms.length = xs.length) {i : Nat} (h : i < xs.length) {c : T} {e : List T} (hc : Enc.e (ms[i]'(by omega)) = [c]) (he : e.length = 1 := by rfl) : els (ms.take (i + 1) ++ xs.drop (i + 1)) = (els (ms.take i ++ xs.drop i)).set i (splice e 0 [c]) := by
  have h1 : splice e 0 [c] = Enc.e (ms[i]'(by omega)) := by
    rw [hc]
    match e, he with
    | [t], _ => rfl
  have h2 : i < ms.length := by omega
  rw [h1, ← els_set]
  congr 1
  have hi : (ms.take i).length = i := by simp; omega
  rw [List.take_succ_eq_append_getElem h2, List.set_append_right _ _ (by omega)]
  have : i - (ms.take i).length = 0 := by omega
  rw [this, List.drop_eq_getElem_cons h, List.set_cons_zero, List.append_assoc]
  rfl
theorem mk_at {α : Type} {ms xs : List α} (hl : ms.length = xs.length) {i : Nat} (h : i < xs.length) (h' : i < (ms.take i ++ xs.drop i).length := by simp; omega) : (ms.take i ++ xs.drop i)[i] = xs[i] := by
  have hi : (ms.take i).length = i := by simp; omega
  rw [List.getElem_append_right (by omega)]
  simp [hi]
theorem mk_len {α : Type} {ms xs : List α} (hl : ms.length = xs.length) {i : Nat} (h : i ≤ xs.length) : (ms.take i ++ xs.drop i).length = xs.length := by simp; omega
theorem mk_end {α : Type} {ms xs : List α} (hl : ms.length = xs.length) {i : Nat} (h : xs.length ≤ i) : ms.take i ++ xs.drop i = ms := by rw [List.take_of_length_le (by omega), List.drop_of_length_le h, List.append_nil]

def markI (xs : List Int) (k : Int) : List Int := (List.range xs.length).map fun (i : Nat) => k + i
theorem markI_len (xs : List Int) (k : Int) : (markI xs k).length = xs.length := by simp [markI]
theorem markI_at {xs : List Int} {k : Int} {i : Nat} (h : i < (markI xs k).length) : (markI xs k)[i] = k + i := by simp [markI]
set_option maxHeartbeats 8000000 in
theorem L_markIntS (xs : List Int) (k : Int) (hL : xs.length ≤ 1073741824) (h0 : 0 < k) (hk : k ≤ 4294967296) : Con Tryd.prog 49 [.row 1 (els xs), .gh 0 (.c (.ref 0))] [.c (.ref 0), ai k] [.row 1 (els (markI xs k)), .gh 0 (.c (.ref 0))] (I (k + xs.length)) := by
  have hml := markI_len xs k
  refine Con.of Tryd.func49 rfl Tryd.ntmps49 rfl (fun E => ?_)
  refine A_seq ?_; refine A_region ?_; refine M0 (q_assignC rfl rfl rfl) rfl rfl ?_; refine L_nil ?_; refine T_n ?_; refine A_seq ?_; refine A_seq ?_; refine A_region ?_
  refine M0 (q_assignC rfl rfl rfl) rfl rfl ?_; refine L_nil ?_; refine T_n ?_; refine A_block ?_
  refine A_loop (fun m st => ∃ i : Nat, i + m = xs.length ∧ (True) ∧ st = (fun i : Nat => (⟨_, [(0, .o (.c (.ref 0))), (1, I (k + i)), (5, I i)], [.row 1 (els ((markI xs k).take i ++ xs.drop i)), .gh 0 (.c (.ref 0))]⟩ : St)) i) (xs.length) ⟨(fun i : Nat => (⟨_, [(0, .o (.c (.ref 0))), (1, I (k + i)), (5, I i)], [.row 1 (els ((markI xs k).take i ++ xs.drop i)), .gh 0 (.c (.ref 0))]⟩ : St)) 0, W_go [0, 1] (by decide) rfl (rfl) (.cons rfl (.cons (I_eq (by omega)) (.cons rfl (.nil)))), 0, by omega, trivial, rfl⟩ ?_
  rintro m_A _ ⟨i, hk_A, hp_A, rfl⟩
  have hl2 : (els ((markI xs k).take i ++ xs.drop i)).length = xs.length := by rw [els_len, mk_len hml (by omega)]
  refine A_seq ?_; refine A_seq ?_; refine A_region ?_; refine M0 (q_moveC rfl rfl rfl) rfl rfl ?_; refine M0 (q_moveC rfl rfl rfl) rfl rfl ?_; refine M0 (q_lenr rfl rfl rfl rfl) rfl rfl ?_
  refine M0 (q_lss rfl rfl rfl rfl) rfl rfl ?_; refine L_nil ?_; refine T_n ?_
  refine A_cond rfl (fun h => ?_) (fun h => ?_)
  · have h3 : i < xs.length := by have := of_decide_eq_true h; omega
    have hi : i < ((markI xs k).take i ++ xs.drop i).length := by rw [mk_len hml (by omega)]; exact h3
    have hat := els_at hi
    refine A_skip ?_; refine T_n ?_; refine A_seq ?_; refine A_block ?_; refine A_seq ?_; refine A_region ?_; refine M0 (q_moveC rfl rfl rfl) rfl rfl ?_; refine M0 (q_moveC rfl rfl rfl) rfl rfl ?_
    refine M0 (q_moveC rfl rfl rfl) rfl rfl ?_; refine M0 (q_ar rfl rfl rfl rfl rfl (by omega) (by omega)) rfl rfl ?_
    refine M_ste1 rfl rfl rfl rfl rfl rfl rfl rfl rfl (by assumption) rfl rfl ?_; refine L_nil ?_; refine T_n ?_; refine A_region ?_; refine M0 (q_moveC rfl rfl rfl) rfl rfl ?_
    refine M0 (q_add rfl rfl rfl rfl (by omega)) rfl rfl ?_; refine M0 (q_assignC rfl rfl rfl) rfl rfl ?_; refine L_nil ?_; refine B_n ?_; refine T_n ?_; refine A_region ?_
    refine M0 (q_moveC rfl rfl rfl) rfl rfl ?_; refine M0 (q_add rfl rfl rfl rfl (by omega)) rfl rfl ?_; refine M0 (q_assignC rfl rfl rfl) rfl rfl ?_; refine L_nil ?_; refine T_n ?_
    exact ⟨xs.length - (i + 1), by omega, (fun i : Nat => (⟨_, [(0, .o (.c (.ref 0))), (1, I (k + i)), (5, I i)], [.row 1 (els ((markI xs k).take i ++ xs.drop i)), .gh 0 (.c (.ref 0))]⟩ : St)) (i + 1), W_go [0, 1] (by decide) rfl (row2 (mk_next hml h3 (by rw [markI_at]; rfl))) (.cons rfl (.cons (I_eq (by omega)) (.cons rfl (.nil)))), i + 1, by omega, trivial, rfl⟩
  · have h3 : ¬ ((i : Int) < (els ((markI xs k).take i ++ xs.drop i)).length) := of_decide_eq_false h
    have hi : i = xs.length := by omega
    refine A_exit ?_; refine T_x ?_; refine T_x ?_; refine B_xs ?_; refine T_n ?_; refine A_seq ?_; refine A_region ?_; refine M0 (q_moveC rfl rfl rfl) rfl rfl ?_
    refine M0 (q_assignC rfl rfl rfl) rfl rfl ?_; refine L_nil ?_; refine T_n ?_; refine A_ret ?_; refine F_r ?_
    exact E_tmp rfl rfl (W_end [0, 1] (by decide) rfl (row2 (by rw [mk_end hml (by omega)])) (I_eq (by omega)))
end Go.Proofs.YtkfnaniegldfaaaDoor
end
