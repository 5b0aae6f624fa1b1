/-
  Plain data as trees of cells, and how they lie in memory: read-only, or owned block by block. No statement of the program is proved here.
  Conditions: none.
-/
import Derived.WalkKit
import Derived.WalkSpells
import Derived.Deep.OwnRows
import Derived.Deep.MidRow
namespace Go.Proofs.Ytkfnaniegldfaaa
open Go.RowKit

/-- The content of one cell: a plain value, or a slice, element by element, cell by cell; k: cells per element. -/
inductive T where
  | v (x : Value)
  | sl (k : Nat) (es : List (List T))
  | un

/-- Read-only data: it lies in blocks of F. -/
inductive RO (w : World) (F : Nat → Prop) : T → Value → Prop
  | v (x : Value) (h : x.oneCell' = true) : RO w F (.v x) x
  | un (x : Value) (h : x.oneCell' = true) : RO w F .un x
  | nil (A : Option Addr) (k c : Nat) (hm : c ≤ maxLen) : RO w F (.sl k []) (.slice A 0 c)
  | sl (es : List (List T)) (b o k c : Nat) (val : Nat → Nat → Value) (hF : F b) (hc : es.length ≤ c) (hm : c ≤ maxLen) (hp : 0 < k) (hk : ∀ e ∈ es, e.length = k)
      (hv : ∀ i j, i < es.length → j < k → w.cell? ⟨b, o + i * k + j, none⟩ = some (val i j))
      (ht : ∀ (i j : Nat) (e : List T) (t : T), es[i]? = some e → e[j]? = some t → RO w F t (val i j)) : RO w F (.sl k es) (.slice (some ⟨b, o, none⟩) es.length c)

theorem getE_lt {α : Type} {l : List α} {i : Nat} {x : α} (h : l[i]? = some x) : i < l.length := (List.getElem?_eq_some_iff.1 h).1
theorem getE_mem {α : Type} {l : List α} {i : Nat} {x : α} (h : l[i]? = some x) : x ∈ l := List.mem_of_getElem? h

theorem RO.one {w : World} {F : Nat → Prop} {x : T} {v : Value} (h : RO w F x v) : v.oneCell' = true := by
  cases h with
  | v _ h => exact h
  | un _ h => exact h
  | nil => rfl
  | sl => rfl

theorem RO.move {w w' : World} {F G : Nat → Prop} {x : T} {v : Value} (h : RO w F x v) (hf : ∀ b, F b → b < w.heap.size → G b ∧ w'.heap[b]? = w.heap[b]?) : RO w' G x v := by
  induction h with
  | v x h => exact .v x h
  | un x h => exact .un x h
  | nil A k c hm => exact .nil A k c hm
  | sl es b o k c val hF hc hm hp hk hv ht ih =>
    cases es with
    | nil => exact .nil _ _ _ hm
    | cons e0 es =>
      have hb : b < w.heap.size := World.block_lt_of_cell? w _ (hv 0 0 (by simp) hp)
      obtain ⟨hG, he⟩ := hf b hF hb
      exact .sl _ b o k c val hG hc hm hp hk (fun i j hi hj => (World.cell?_of_block (w := w) (a := ⟨b, o + i * k + j, none⟩) he).trans (hv i j hi hj)) fun i j e t h1 h2 => ih i j e t h1 h2

theorem RO.weak {w : World} {F G : Nat → Prop} {x : T} {v : Value} (h : RO w F x v) (hf : ∀ b, F b → b < w.heap.size → G b) : RO w G x v := h.move fun b h1 h2 => ⟨hf b h1 h2, rfl⟩

theorem RO.at_ {w : World} {F : Nat → Prop} {k : Nat} {es : List (List T)} {v : Value} (h : RO w F (.sl k es) v) {i : Nat} {e : List T} (hi : es[i]? = some e) :
    ∃ b o c, v = .slice (some ⟨b, o, none⟩) es.length c ∧ F b ∧ 0 < k ∧ e.length = k ∧ ∀ (j : Nat) (t : T), e[j]? = some t → ∃ u, w.cell? ⟨b, o + i * k + j, none⟩ = some u ∧ RO w F t u := by
  cases h with
  | nil => simp at hi
  | sl _ b o _ c val hF hc hm hp hk hv ht =>
    have hl := hk e (getE_mem hi)
    exact ⟨b, o, c, rfl, hF, hp, hl, fun j t hj => ⟨_, hv i j (getE_lt hi) (by rw [← hl]; exact getE_lt hj), ht i j e t hi hj⟩⟩

theorem RO.form {w : World} {F : Nat → Prop} {k : Nat} {es : List (List T)} {v : Value} (h : RO w F (.sl k es) v) : ∃ A c, v = .slice A es.length c ∧ es.length ≤ c ∧ c ≤ maxLen := by
  cases h with
  | nil A k c hm => exact ⟨A, c, rfl, Nat.zero_le _, hm⟩
  | sl _ b o _ c val hF hc hm => exact ⟨_, c, rfl, hc, hm⟩

theorem RO.plain {w : World} {F : Nat → Prop} {x v : Value} (h : RO w F (.v x) v) : v = x ∧ x.oneCell' = true := by
  cases h with
  | v _ h => exact ⟨rfl, h⟩

/-! ### Owned -/
/-- Owned data; fp: its blocks. -/
inductive OW (w : World) : T → Value → List Nat → Prop
  | v (x : Value) (h : x.oneCell' = true) : OW w (.v x) x []
  | un (x : Value) (h : x.oneCell' = true) : OW w .un x []
  | nil (k : Nat) : OW w (.sl k []) (.slice none 0 0) []
  | sl (es : List (List T)) (b o k c : Nat) (tid : TypeId) (cur : Array Value) (fz : Nat × Nat) (val : Nat → Nat → Value) (fps : List (List (List Nat))) (hg : w.heap[b]? = some (.cells cur tid fz)) (hz : fz = (0, 0) ∨ cur.size ≤ fz.1)
      (hc : es.length ≤ c) (hm : c ≤ maxLen) (hs : o + c * k ≤ cur.size) (hp : 0 < k) (hk : ∀ e ∈ es, e.length = k) (hf : fps.length = es.length) (hfk : ∀ f ∈ fps, f.length = k)
      (hv : ∀ i j, i < es.length → j < k → cur[o + i * k + j]? = some (val i j))
      (ht : ∀ (i j : Nat) (e : List T) (t : T) (fs : List (List Nat)) (f : List Nat), es[i]? = some e → e[j]? = some t → fps[i]? = some fs → fs[j]? = some f → OW w t (val i j) f) :
      OW w (.sl k es) (.slice (some ⟨b, o, none⟩) es.length c) (b :: fps.flatten.flatten)

theorem mem_ff {α : Type} {fps : List (List (List α))} {i j : Nat} {fs : List (List α)} {f : List α} (h1 : fps[i]? = some fs) (h2 : fs[j]? = some f) {b : α} (hb : b ∈ f) : b ∈ fps.flatten.flatten :=
  List.mem_flatten.2 ⟨f, List.mem_flatten.2 ⟨fs, getE_mem h1, getE_mem h2⟩, hb⟩

theorem OW.one {w : World} {x : T} {v : Value} {fp : List Nat} (h : OW w x v fp) : v.oneCell' = true := by
  cases h with
  | v _ h => exact h
  | un _ h => exact h
  | nil => rfl
  | sl => rfl

theorem OW.frame {w w' : World} {x : T} {v : Value} {fp : List Nat} (h : OW w x v fp) (hf : ∀ b ∈ fp, w'.heap[b]? = w.heap[b]?) : OW w' x v fp := by
  induction h with
  | v x h => exact .v x h
  | un x h => exact .un x h
  | nil k => exact .nil k
  | sl es b o k c tid cur fz val fps hg hz hc hm hs hp hk hl hfk hv ht ih =>
    exact .sl es b o k c tid cur fz val fps ((hf b (by simp)).trans hg) hz hc hm hs hp hk hl hfk hv fun i j e t fs f h1 h2 h3 h4 => ih i j e t fs f h1 h2 h3 h4 fun b' hb' => hf b' (List.mem_cons_of_mem _ (mem_ff h3 h4 hb'))

theorem OW.lt {w : World} {x : T} {v : Value} {fp : List Nat} (h : OW w x v fp) : ∀ b ∈ fp, b < w.heap.size := by
  induction h with
  | v x h => simp
  | un x h => simp
  | nil => simp
  | sl es b o k c tid cur fz val fps hg hz hc hm hs hp hk hl hfk hv ht ih =>
    intro b' hb'
    rcases List.mem_cons.1 hb' with rfl | hb'
    · exact (Array.getElem?_eq_some_iff.1 hg).1
    · obtain ⟨f, hf1, hf2⟩ := List.mem_flatten.1 hb'
      obtain ⟨fs, hs1, hs2⟩ := List.mem_flatten.1 hf1
      obtain ⟨i, hi⟩ := List.getElem?_of_mem hs1
      obtain ⟨j, hj⟩ := List.getElem?_of_mem hs2
      have h1 : i < es.length := by rw [← hl]; exact getE_lt hi
      have h2 : j < (es[i]).length := by rw [hk _ (List.getElem_mem h1), ← hfk _ hs1]; exact getE_lt hj
      exact ih i j _ _ fs f (List.getElem?_eq_getElem h1) (List.getElem?_eq_getElem h2) hi hj b' hf2

theorem OW.ro {w : World} {x : T} {v : Value} {fp : List Nat} (h : OW w x v fp) : RO w (· ∈ fp) x v := by
  induction h with
  | v x h => exact .v x h
  | un x h => exact .un x h
  | nil k => exact .nil _ _ _ (Nat.zero_le _)
  | sl es b o k c tid cur fz val fps hg hz hc hm hs hp hk hl hfk hv ht ih =>
    refine .sl es b o k c val (by simp) hc hm hp hk (fun i j hi hj => ?_) fun i j e t h1 h2 => ?_
    · rw [cell_of_row w b _ cur tid fz hg]
      simpa using hv i j hi hj
    · have h3 : i < fps.length := by rw [hl]; exact getE_lt h1
      have h4 : j < (fps[i]).length := by rw [hfk _ (List.getElem_mem h3), ← hk _ (getE_mem h1)]; exact getE_lt h2
      exact (ih i j e t _ _ h1 h2 (List.getElem?_eq_getElem h3) (List.getElem?_eq_getElem h4)).weak fun b' hb' _ => List.mem_cons_of_mem _ (mem_ff (List.getElem?_eq_getElem h3) (List.getElem?_eq_getElem h4) hb')

end Go.Proofs.Ytkfnaniegldfaaa
