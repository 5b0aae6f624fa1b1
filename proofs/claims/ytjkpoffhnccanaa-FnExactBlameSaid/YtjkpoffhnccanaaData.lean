/-
  From the data that a law's arguments read as to the plain Lean data that the walks speak of. No statement of the program is proved here.
  Conditions: none.
-/
import Derived.Test.YtjkpoffhnccanaaMem
import Derived.ProofKit
import Derived.Deep.Slices
namespace Go.Proofs.Ytjkpoffhnccanaa
open Go.RowKit Go.ChangeShapes Go.WideShapes Go.Deep

theorem list_of_each {α : Type} {p : Nat → α → Prop} : ∀ n : Nat, (∀ i, i < n → ∃ y, p i y) → ∃ ys : List α, ys.length = n ∧ ∀ (i : Nat) (y : α), ys[i]? = some y → p i y
  | 0, _ => ⟨[], rfl, fun _ _ h => by simp at h⟩
  | n + 1, h => by
    obtain ⟨ys, h1, h2⟩ := list_of_each n fun i hi => h i (by omega)
    obtain ⟨y, hy⟩ := h n (by omega)
    refine ⟨ys ++ [y], by simp [h1], fun i z hz => ?_⟩
    rcases Nat.lt_or_ge i ys.length with hi | hi
    · rw [List.getElem?_append_left hi] at hz
      exact h2 i z hz
    · rw [List.getElem?_append_right hi] at hz
      have hi0 : i - ys.length = 0 := by
        rcases Nat.eq_zero_or_pos (i - ys.length) with h0 | h0
        · exact h0
        · rw [List.getElem?_eq_none (by simp; omega)] at hz
          cases hz
      rw [hi0] at hz
      simp only [List.getElem?_cons_zero, Option.some.injEq] at hz
      subst hz
      have : i = n := by omega
      subst this
      exact hy

/-- A Go type's readings are a Lean type's. -/
class RdOf (P : Program) (t : TypeId) (α : outParam Type) [Rep α] : Prop where
  size : P.cellsOf t = Rep.size α
  of : ∀ {H : Type} {enc : TypeId × Value → H} {w : World} {spare : Nat → Bool} {held : Bool} {fuel : Nat} {cs : List Value} {x : DataW H × List MemPlace},
    DataW.trod enc P w 0 spare held fuel t cs = some x → ∃ y : α, Rep.rd w (fun _ => True) y cs

theorem i64_of_wf {n : Int} (h : (Lit.int .i64 n).wf = true) : I64 n := by
  simp [Lit.wf, IntKind.min, IntKind.max, IntKind.signed, IntKind.bits] at h
  exact ⟨by omega, by omega⟩
theorem rdOf_int {P : Program} {t : TypeId} (ht : P.underlying t = some (.int .i64)) (hs : P.cellsOf t = 1) : RdOf P t Int where
  size := hs
  of h := by
    obtain ⟨n, h1, _, h3⟩ := DataW.trod_int ht h
    refine ⟨n, h1, ?_⟩
    simp [Lit.wf, IntKind.min, IntKind.max, IntKind.signed, IntKind.bits] at h3
    exact ⟨by omega, by omega⟩
theorem rdOf_string {P : Program} {t : TypeId} (ht : P.underlying t = some .string) (hs : P.cellsOf t = 1) : RdOf P t ByteArray where
  size := hs
  of h := by
    obtain ⟨s, h1, _, h3⟩ := DataW.trod_string ht h
    exact ⟨s, h1, by simpa [maxLen] using h3⟩
theorem rdOf_slice {P : Program} {t e : TypeId} {α : Type} [Rep α] [hα : RdOf P e α] (ht : P.underlying t = some (.slice e)) (hs : P.cellsOf t = 1) : RdOf P t (List α) where
  size := hs
  of {H enc w spare held fuel cs x} h := by
    rcases open_slice ht h with ⟨rfl, _⟩ | ⟨a, len, cap, m, n, D, Pl, rfl, _, hl, hm, hmm, _, hi⟩
    · exact ⟨[], none, 0, rfl, by simp, by omega, .inl rfl⟩
    · have hlm : len ≤ m := by rw [hmm]; split <;> omega
      obtain ⟨ys, h1, h2⟩ := list_of_each (p := fun i y => ∃ es, w.cells? 0 (a.add (i * P.cellsOf e)) (P.cellsOf e) = some es ∧ Rep.rd w (fun _ => True) (α := α) y es) len fun i hi' => by
        obtain ⟨es, h3, h4⟩ := hi i (by omega)
        obtain ⟨y, hy⟩ := hα.of h4
        exact ⟨y, es, h3, hy⟩
      subst h1
      refine ⟨ys, some a, cap, rfl, hl, by simpa [maxLen] using hm, ?_⟩
      rcases Nat.eq_zero_or_pos ys.length with h0 | h0
      · exact .inl (List.eq_nil_of_length_eq_zero h0)
      · have hsp : a.spot = none := by
          obtain ⟨es, h3, h4⟩ := h2 0 _ (List.getElem?_eq_getElem h0)
          obtain ⟨_, hcl, hat⟩ := World.cells?_some h3
          have hp : 0 < P.cellsOf e := by rw [hα.size]; exact Rep.pos
          have := hat 0 hp
          rw [List.getElem?_eq_getElem (by omega)] at this
          have h5 := World.cell?_spot this
          simpa [Addr.add] using h5
        obtain ⟨b, o, sp⟩ := a
        simp only at hsp
        subst hsp
        refine .inr ⟨b, o, rfl, trivial, fun k y hy => ?_⟩
        obtain ⟨es, h3, h4⟩ := h2 k y hy
        obtain ⟨_, hcl, hat⟩ := World.cells?_some h3
        refine ⟨es, fun j u hu => ?_, h4⟩
        have hj : j < P.cellsOf e := by
          have := (List.getElem?_eq_some_iff.1 hu).1
          omega
        have h5 := hat j hj
        rw [hu] at h5
        have hadd : ∀ (b o i : Nat), (⟨b, o, none⟩ : Addr).add i = ⟨b, o + i, none⟩ := fun b o i => by unfold Addr.add; split <;> simp_all
        rw [hadd, hadd, hα.size] at h5
        exact h5

theorem rd_of_Trod {P : Program} {t : TypeId} {α : Type} [Rep α] [hα : RdOf P t α] {H : Type} {enc : TypeId × Value → H} {w : World} {spare : Nat → Bool} {held : Bool} {v : Value} {d : DataW H} {p : List MemPlace}
    (h : DataW.Trod enc P w 0 spare held t v d p) : ∃ y : α, Rep.rd w (fun _ => True) y v.cells.toList := by
  obtain ⟨fuel, hf⟩ := h
  exact hα.of hf

end Go.Proofs.Ytjkpoffhnccanaa
