/-
  Plain Lean data as trees of cells: how the arguments' data read. No statement of the program is proved here.
  Conditions: none.
-/
import Derived.Test.YtkfnaniegldfaaaDKind
import Derived.ProofKit
import Derived.Deep.Slices
set_option linter.unusedVariables false
set_option linter.unusedSimpArgs false
namespace Go.Proofs.Ytkfnaniegldfaaa
open Go.RowKit Go.ChangeShapes Go.WideShapes Go.Deep

/-- A number of 64 bits. -/
def I64 (x : Int) : Prop := -9223372036854775808 ≤ x ∧ x ≤ 9223372036854775807

/-- Data of one Go type: its cells; gd: it fits; wt: how much the laws' counting functions count. -/
class Enc (α : Type) where
  k : Nat
  pos : 0 < k
  e : α → List T
  len : ∀ x, (e x).length = k
  gd : α → Prop
  wt : α → Nat
instance : Enc Int := ⟨1, by omega, fun x => [.v (.int .i64 x)], fun _ => rfl, I64, fun _ => 0⟩
instance : Enc Bool := ⟨1, by omega, fun x => [.v (.bool x)], fun _ => rfl, fun _ => True, fun _ => 0⟩
instance : Enc ByteArray := ⟨1, by omega, fun x => [.v (.string x)], fun _ => rfl, fun x => x.size ≤ 9223372036854775807, fun x => x.size⟩
def wts {α : Type} [Enc α] : List α → Nat
  | [] => 0
  | x :: xs => Enc.wt x + wts xs
/-- The elements of a slice. -/
@[reducible] def els {α : Type} [Enc α] (xs : List α) : List (List T) := xs.map Enc.e
instance {α : Type} [Enc α] : Enc (List α) := ⟨1, by omega, fun xs => [.sl (Enc.k α) (els xs)], fun _ => rfl, fun xs => xs.length ≤ 9223372036854775807 ∧ ∀ x ∈ xs, Enc.gd x, fun xs => xs.length + wts xs⟩

/-- A slice as one cell; as an argument; its elements' cells. -/
@[reducible] def sl {α : Type} [Enc α] (xs : List α) : T := .sl (Enc.k α) (els xs)
@[reducible] def ac (x : T) : V2 := .c (.rd [] x)
@[reducible] def ai (n : Int) : V2 := .c (.rd [] (.v (.int .i64 n)))
@[reducible] def astr (s : ByteArray) : V2 := .c (.rd [] (.v (.string s)))
@[reducible] def al {α : Type} [Enc α] (xs : List α) : V2 := .c (.rd [] (sl xs))
/-- A struct as an argument. -/
@[reducible] def ag {α : Type} [Enc α] (x : α) : V2 := .ag ((Enc.e x).map (V1.rd []))
/-- A slice in a slot. -/
@[reducible] def L {α : Type} [Enc α] (xs : List α) : V := .o (al xs)

/-- Data of plain cells. -/
class PlainE (α : Type) [Enc α] : Prop where
  plain : ∀ (x : α) (t : T), t ∈ Enc.e x → ∃ u, t = .v u
instance : PlainE Int := ⟨fun x t h => by simp [Enc.e] at h; exact ⟨_, h⟩⟩
instance : PlainE Bool := ⟨fun x t h => by simp [Enc.e] at h; exact ⟨_, h⟩⟩
instance : PlainE ByteArray := ⟨fun x t h => by simp [Enc.e] at h; exact ⟨_, h⟩⟩
theorem els_plain {α : Type} [Enc α] [PlainE α] (xs : List α) : plainT (els xs) := fun e he t ht => by
  obtain ⟨x, _, rfl⟩ := List.mem_map.1 he
  exact PlainE.plain x t ht
theorem els_k {α : Type} [Enc α] (xs : List α) : ∀ e ∈ els xs, e.length = Enc.k α := fun e he => by
  obtain ⟨x, _, rfl⟩ := List.mem_map.1 he
  exact Enc.len x
/-- Bytes as a string. -/
@[reducible] def bs (l : List UInt8) : ByteArray := ⟨l.toArray⟩
theorem bs_app (a b : List UInt8) : bs a ++ bs b = bs (a ++ b) := by
  apply ByteArray.ext
  rw [ByteArray.data_append]
  simp [bs]
theorem bs_size (l : List UInt8) : (bs l).size = l.length := by simp [bs, ByteArray.size]
theorem cat_size (a b : ByteArray) : (a ++ b).size = a.size + b.size := by simp [ByteArray.size_append]
theorem bs_list (l : List UInt8) : (bs l).data.toList = l := by simp [bs]
theorem bs_of (s : ByteArray) : bs s.data.toList = s := by simp [bs]
theorem bs_inj {a b : List UInt8} : bs a = bs b ↔ a = b := ⟨fun h => by have := congrArg (·.data.toList) h; simpa [bs_list] using this, fun h => by rw [h]⟩
theorem S_eq {a b : ByteArray} (h : a = b) : S a = S b := by rw [h]
theorem bE_app (a b : List UInt8) : bE a ++ bE b = bE (a ++ b) := by simp [bE]
theorem bE_snoc (a : List UInt8) (n : Int) (h : 0 ≤ n ∧ n ≤ 255) : bE a ++ [[.v (.int .u8 n)]] = bE (a ++ [UInt8.ofNat n.toNat]) := by
  have h1 : ((UInt8.ofNat n.toNat).toNat : Int) = n := by
    rw [UInt8.toNat_ofNat']
    omega
  unfold bE
  rw [List.map_append, List.map_cons, List.map_nil, h1]

theorem els_at {α : Type} [Enc α] {xs : List α} {k : Nat} (h : k < xs.length) : (els xs)[(k : Int).toNat]? = some (Enc.e xs[k]) := by simp [els, h]
theorem els_len {α : Type} [Enc α] (xs : List α) : (els xs).length = xs.length := by simp [els]
theorem wts_take {α : Type} [Enc α] : ∀ (xs : List α) (k : Nat) (h : k < xs.length), wts (xs.take (k + 1)) = wts (xs.take k) + Enc.wt xs[k]
  | x :: xs, 0, _ => by simp [wts]
  | x :: xs, k + 1, h => by
    have := wts_take xs k (by simpa using h)
    simp only [List.take_succ_cons, wts, List.getElem_cons_succ, this]
    omega
theorem wts_le {α : Type} [Enc α] : ∀ (xs : List α) (x : α), x ∈ xs → Enc.wt x ≤ wts xs
  | y :: xs, x, h => by
    simp only [wts]
    rcases List.mem_cons.1 h with rfl | h
    · omega
    · have := wts_le xs x h; omega
theorem wts_take_le {α : Type} [Enc α] : ∀ (xs : List α) (k : Nat), wts (xs.take k) ≤ wts xs
  | [], k => by simp [wts]
  | x :: xs, 0 => by simp [wts]
  | x :: xs, k + 1 => by
    have := wts_take_le xs k
    simp only [List.take_succ_cons, wts]
    omega

/-! ### Readings -/
theorem list_of_each {α : Type} {p : Nat → α → Prop} : ∀ n : Nat, (∀ i, i < n → ∃ y, p i y) → ∃ ys : List α, ys.length = n ∧ ∀ (i : Nat) (y : α), ys[i]? = some y → p i y
  | 0, _ => ⟨[], rfl, fun _ _ h => by simp at h⟩
  | n + 1, h => by
    obtain ⟨ys, h1, h2⟩ := list_of_each n fun i hi => h i (by omega)
    obtain ⟨y, hy⟩ := h n (by omega)
    refine ⟨ys ++ [y], by simp [h1], fun i z hz => ?_⟩
    rcases Nat.lt_or_ge i ys.length with hi | hi
    · rw [List.getElem?_append_left hi] at hz
      exact h2 i z hz
    · rw [List.getElem?_append_right hi] at hz
      have hi0 : i - ys.length = 0 := by
        rcases Nat.eq_zero_or_pos (i - ys.length) with h0 | h0
        · exact h0
        · rw [List.getElem?_eq_none (by simp; omega)] at hz
          cases hz
      rw [hi0] at hz
      simp only [List.getElem?_cons_zero, Option.some.injEq] at hz
      subst hz
      have : i = n := by omega
      subst this
      exact hy

/-- The cells cs read as x. -/
def Reads {α : Type} [Enc α] (w : World) (x : α) (cs : List Value) : Prop := cs.length = Enc.k α ∧ ∀ (j : Nat) (t : T) (u : Value), (Enc.e x)[j]? = some t → cs[j]? = some u → RO w (fun _ => True) t u

/-- A Go type's readings are a Lean type's. -/
class RdOf (P : Program) (t : TypeId) (α : outParam Type) [Enc α] : Prop where
  size : P.cellsOf t = Enc.k α
  of : ∀ {H : Type} {enc : TypeId × Value → H} {w : World} {spare : Nat → Bool} {held : Bool} {fuel : Nat} {cs : List Value} {x : DataW H × List MemPlace},
    DataW.trod enc P w 0 spare held fuel t cs = some x → ∃ y : α, Enc.gd y ∧ Reads w y cs

theorem i64_of_wf {n : Int} (h : (Lit.int .i64 n).wf = true) : I64 n := by
  simp [Lit.wf, IntKind.min, IntKind.max, IntKind.signed, IntKind.bits] at h
  exact ⟨by omega, by omega⟩
theorem reads_one {α : Type} [Enc α] {w : World} {x : α} {t : T} {u : Value} (he : Enc.e x = [t]) (h : RO w (fun _ => True) t u) : Reads w x [u] := by
  refine ⟨by rw [← Enc.len x, he]; rfl, fun j t' u' h1 h2 => ?_⟩
  rw [he] at h1
  cases j with
  | zero => simp at h1 h2; subst h1 h2; exact h
  | succ j => simp at h1
theorem rdOf_int {P : Program} {t : TypeId} (ht : P.underlying t = some (.int .i64)) (hs : P.cellsOf t = 1) : RdOf P t Int where
  size := hs
  of h := by
    obtain ⟨n, rfl, _, h3⟩ := DataW.trod_int ht h
    exact ⟨n, i64_of_wf h3, reads_one rfl (.v _ rfl)⟩
theorem rdOf_string {P : Program} {t : TypeId} (ht : P.underlying t = some .string) (hs : P.cellsOf t = 1) : RdOf P t ByteArray where
  size := hs
  of h := by
    obtain ⟨s, rfl, _, h3⟩ := DataW.trod_string ht h
    exact ⟨s, by simpa [maxLen, Enc.gd] using h3, reads_one rfl (.v _ rfl)⟩
theorem rdOf_slice {P : Program} {t e : TypeId} {α : Type} [Enc α] [hα : RdOf P e α] (ht : P.underlying t = some (.slice e)) (hs : P.cellsOf t = 1) : RdOf P t (List α) where
  size := hs
  of {H enc w spare held fuel cs x} h := by
    rcases open_slice ht h with ⟨rfl, _⟩ | ⟨a, len, cap, m, n, D, Pl, rfl, _, hl, hm, hmm, _, hi⟩
    · exact ⟨[], ⟨by simp, by simp⟩, reads_one rfl (.nil _ _ _ (by simp [maxLen]))⟩
    · have hlm : len ≤ m := by rw [hmm]; split <;> omega
      obtain ⟨ys, h1, h2⟩ := list_of_each (p := fun i y => ∃ es, w.cells? 0 (a.add (i * P.cellsOf e)) (P.cellsOf e) = some es ∧ Enc.gd (α := α) y ∧ Reads w y es) len fun i hi' => by
        obtain ⟨es, h3, h4⟩ := hi i (by omega)
        obtain ⟨y, hy⟩ := hα.of h4
        exact ⟨y, es, h3, hy⟩
      subst h1
      refine ⟨ys, ⟨by simp [maxLen] at hm; omega, fun y hy => ?_⟩, ?_⟩
      · obtain ⟨i, hi'⟩ := List.getElem?_of_mem hy
        obtain ⟨es, _, hg, _⟩ := h2 i y hi'
        exact hg
      refine reads_one rfl ?_
      rcases Nat.eq_zero_or_pos ys.length with h0 | h0
      · have := List.eq_nil_of_length_eq_zero h0
        subst this
        exact .nil _ _ _ hm
      · have hsp : a.spot = none := by
          obtain ⟨es, h3, _⟩ := h2 0 _ (List.getElem?_eq_getElem h0)
          obtain ⟨_, hcl, hat⟩ := World.cells?_some h3
          have hp : 0 < P.cellsOf e := by rw [hα.size]; exact Enc.pos
          have := hat 0 hp
          rw [List.getElem?_eq_getElem (by omega)] at this
          have h5 := World.cell?_spot this
          simpa [Addr.add] using h5
        obtain ⟨b, o, sp⟩ := a
        simp only at hsp
        subst hsp
        have hel : ∀ i, i < ys.length → ∃ es, w.cells? 0 ((⟨b, o, none⟩ : Addr).add (i * P.cellsOf e)) (P.cellsOf e) = some es := fun i hi' => by
          obtain ⟨es, h3, _⟩ := h2 i _ (List.getElem?_eq_getElem hi')
          exact ⟨es, h3⟩
        have hlen : ys.length = (els ys).length := (els_len ys).symm
        rw [hlen]
        refine .sl (els ys) b o (Enc.k α) cap (fun i j => ((w.cells? 0 ((⟨b, o, none⟩ : Addr).add (i * P.cellsOf e)) (P.cellsOf e)).getD []).getD j undef) trivial (by rw [els_len]; exact hl) hm Enc.pos (fun e' he => ?_) (fun i j hi' hj => ?_) fun i j e' t' h3 h4 => ?_
        · obtain ⟨y, _, rfl⟩ := List.mem_map.1 he
          exact Enc.len y
        · rw [els_len] at hi'
          obtain ⟨es, h3⟩ := hel i hi'
          obtain ⟨_, hcl, hat⟩ := World.cells?_some h3
          rw [hα.size] at hcl
          have h5 := hat j (by rw [hα.size]; exact hj)
          rw [add_lit, add_lit, hα.size, List.getElem?_eq_getElem (by omega)] at h5
          rw [h3]
          simp only [Option.getD_some]
          rw [h5, List.getD_eq_getElem?_getD, List.getElem?_eq_getElem (by omega)]
          rfl
        · rw [List.getElem?_map] at h3
          obtain ⟨y, hy, rfl⟩ := Option.map_eq_some_iff.1 h3
          obtain ⟨es, h5, _, h6⟩ := h2 i y hy
          have hj : j < es.length := by rw [h6.1, ← Enc.len y]; exact getE_lt h4
          show RO w _ t' (((w.cells? 0 ((⟨b, o, none⟩ : Addr).add (i * P.cellsOf e)) (P.cellsOf e)).getD []).getD j undef)
          rw [h5]
          simp only [Option.getD_some]
          rw [getD_of (List.getElem?_eq_getElem hj)]
          exact h6.2 j t' _ h4 (List.getElem?_eq_getElem hj)

theorem reads_of_Trod {P : Program} {t : TypeId} {α : Type} [Enc α] [hα : RdOf P t α] {H : Type} {enc : TypeId × Value → H} {w : World} {spare : Nat → Bool} {held : Bool} {v : Value} {d : DataW H} {p : List MemPlace}
    (h : DataW.Trod enc P w 0 spare held t v d p) : ∃ y : α, Enc.gd y ∧ Reads w y v.cells.toList := by
  obtain ⟨fuel, hf⟩ := h
  exact hα.of hf

/-- An argument as a call of a contract wants it. -/
theorem r2_slice {α : Type} [Enc α] {w : World} {H : Hs} {xs : List α} {v : Value} (h : Reads w xs [v]) : R2 w H (fun b => b < w.heap.size) (al xs) v :=
  RO.weak (h.2 0 _ v rfl rfl) fun b _ hb => .inl hb
theorem r2_agg {α : Type} [Enc α] {w : World} {H : Hs} {x : α} {cs : List Value} (h : Reads w x cs) : R2 w H (fun b => b < w.heap.size) (ag x) (.agg cs.toArray) := by
  refine ⟨cs, rfl, by simp [h.1, Enc.len], fun i c u h1 h2 => ?_⟩
  rw [List.getElem?_map] at h1
  obtain ⟨t, h3, rfl⟩ := Option.map_eq_some_iff.1 h1
  exact RO.weak (h.2 i t u h3 h2) fun b _ hb => .inl hb
theorem r2_int {w : World} {H : Hs} {F : Nat → Prop} (n : Int) : R2 w H F (ai n) (.int .i64 n) := RO.v _ rfl
theorem r2_string {w : World} {H : Hs} {F : Nat → Prop} (s : ByteArray) : R2 w H F (astr s) (.string s) := RO.v _ rfl

/-- A law's call. -/
theorem law_calls {P : Program} {f : FuncId} {args : List V2} (hc : Con P f [] args [] (B true)) (w : World) (vs : List Value) (hl : vs.length = args.length) (hr : ∀ (i : Nat) (x : V2) (v : Value), args[i]? = some x → vs[i]? = some v → R2 w (fun _ => .nil) (fun b => b < w.heap.size) x v) :
    Calls P f vs.toArray w fun e w' => e = .returned (.bool true) ∧ Below w.heap.size w w' := by
  refine (hc w (fun _ => .nil) (fun b => b < w.heap.size) vs ⟨fun _ => trivial, fun _ => by simp [Pc.fp], fun p q b h => by simp [Pc.fp] at h, fun p b h => by simp [Pc.fp] at h, fun _ h => h⟩ (fun p => by simp [RB]) hl hr).mono ?_
  rintro e w' ⟨H', F', rv, rfl, hs, _, _, hv⟩
  refine ⟨by rw [(RO.plain (show RO w' _ (.v (.bool true)) rv from hv)).1], hs.os, hs.tape, hs.output, hs.size, fun b hb => hs.keep b hb fun p => by simp [Pc.fp]⟩

end Go.Proofs.Ytkfnaniegldfaaa
