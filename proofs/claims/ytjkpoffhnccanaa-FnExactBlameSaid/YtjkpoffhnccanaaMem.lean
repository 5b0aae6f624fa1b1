/-
  What a value reads as in memory, said once for every shape of data: integers, strings, lists of any of these. No statement of the program is proved here.
  Conditions: none.
-/
import Derived.WalkKit
import Derived.WalkSpells
import Derived.Deep.OwnRows
namespace Go.Proofs.Ytjkpoffhnccanaa
open Go.RowKit

/-- A number of 64 bits. -/
def I64 (x : Int) : Prop := -9223372036854775808 ≤ x ∧ x ≤ 9223372036854775807

/-- The cells from offset o of block b on are cs. -/
def Cells (w : World) (b o : Nat) (cs : List Value) : Prop := ∀ (j : Nat) (u : Value), cs[j]? = some u → w.cell? ⟨b, o + j, none⟩ = some u

theorem Cells.of_block {w w' : World} {b o : Nat} {cs : List Value} (h : Cells w b o cs) (e : w'.heap[b]? = w.heap[b]?) : Cells w' b o cs :=
  fun j u hu => (World.cell?_of_block (w := w) (a := ⟨b, o + j, none⟩) e).trans (h j u hu)
theorem Cells.at_ {w : World} {b o : Nat} {cs : List Value} (h : Cells w b o cs) (j : Nat) (hj : j < cs.length) : w.cell? ⟨b, o + j, none⟩ = some cs[j] :=
  h j _ (List.getElem?_eq_getElem hj)

/-- Data of one Go type: how many cells it takes, and what cells it reads as; F: the blocks that the reading may come to. -/
class Rep (α : Type) where
  size : Nat
  pos : 0 < size
  rd : World → (Nat → Prop) → α → List Value → Prop
  len : ∀ {w : World} {F : Nat → Prop} {x : α} {cs : List Value}, rd w F x cs → cs.length = size
  frame : ∀ {w w' : World} {F : Nat → Prop} {x : α} {cs : List Value}, (∀ b, F b → w'.heap[b]? = w.heap[b]?) → rd w F x cs → rd w' F x cs
  weak : ∀ {w : World} {F G : Nat → Prop} {x : α} {cs : List Value}, (∀ b, F b → G b) → rd w F x cs → rd w G x cs
  old : ∀ {w : World} {F : Nat → Prop} {x : α} {cs : List Value}, rd w F x cs → rd w (fun b => F b ∧ b < w.heap.size) x cs

instance : Rep Int where
  size := 1
  pos := by omega
  rd _ _ x cs := cs = [.int .i64 x] ∧ I64 x
  len h := by rw [h.1]; rfl
  frame _ h := h
  weak _ h := h
  old h := h

instance : Rep Bool where
  size := 1
  pos := by omega
  rd _ _ x cs := cs = [.bool x]
  len h := by rw [h]; rfl
  frame _ h := h
  weak _ h := h
  old h := h

instance : Rep ByteArray where
  size := 1
  pos := by omega
  rd _ _ x cs := cs = [.string x] ∧ x.size ≤ 9223372036854775807
  len h := by rw [h.1]; rfl
  frame _ h := h
  weak _ h := h
  old h := h

/-- A slice: its elements, each in consecutive cells. -/
def RdList {α : Type} [Rep α] (w : World) (F : Nat → Prop) (xs : List α) (A : Option Addr) : Prop :=
  xs = [] ∨ ∃ b o, A = some ⟨b, o, none⟩ ∧ F b ∧ ∀ (k : Nat) (x : α), xs[k]? = some x → ∃ es, Cells w b (o + k * Rep.size α) es ∧ Rep.rd w F x es

theorem RdList.at_ {α : Type} [Rep α] {w : World} {F : Nat → Prop} {xs : List α} {A : Option Addr} (h : RdList w F xs A) {k : Nat} (hk : k < xs.length) :
    ∃ b o es, A = some ⟨b, o, none⟩ ∧ F b ∧ Cells w b (o + k * Rep.size α) es ∧ Rep.rd w F xs[k] es := by
  rcases h with rfl | ⟨b, o, hA, hF, hc⟩
  · exact absurd hk (Nat.not_lt_zero _)
  · obtain ⟨es, h1, h2⟩ := hc k _ (List.getElem?_eq_getElem hk)
    exact ⟨b, o, es, hA, hF, h1, h2⟩

theorem Cells.lt {w : World} {b o : Nat} {cs : List Value} (h : Cells w b o cs) (hp : 0 < cs.length) : b < w.heap.size :=
  World.block_lt_of_cell? w ⟨b, o + 0, none⟩ (h.at_ 0 hp)

theorem RdList.frame {α : Type} [Rep α] {w w' : World} {F : Nat → Prop} {xs : List α} {A : Option Addr} (hf : ∀ b, F b → w'.heap[b]? = w.heap[b]?) (h : RdList w F xs A) : RdList w' F xs A := by
  rcases h with h3 | ⟨b, o, hA, hF, hc⟩
  · exact .inl h3
  · refine .inr ⟨b, o, hA, hF, fun k x hx => ?_⟩
    obtain ⟨es, h4, h5⟩ := hc k x hx
    exact ⟨es, h4.of_block (hf b hF), Rep.frame hf h5⟩
theorem RdList.weak {α : Type} [Rep α] {w : World} {F G : Nat → Prop} {xs : List α} {A : Option Addr} (hf : ∀ b, F b → G b) (h : RdList w F xs A) : RdList w G xs A := by
  rcases h with h3 | ⟨b, o, hA, hF, hc⟩
  · exact .inl h3
  · refine .inr ⟨b, o, hA, hf b hF, fun k x hx => ?_⟩
    obtain ⟨es, h4, h5⟩ := hc k x hx
    exact ⟨es, h4, Rep.weak hf h5⟩
theorem RdList.old {α : Type} [Rep α] {w : World} {F : Nat → Prop} {xs : List α} {A : Option Addr} (h : RdList w F xs A) : RdList w (fun b => F b ∧ b < w.heap.size) xs A := by
  rcases h with h3 | ⟨b, o, hA, hF, hc⟩
  · exact .inl h3
  · by_cases hx : xs = []
    · exact .inl hx
    · refine .inr ⟨b, o, hA, ⟨hF, ?_⟩, fun k x hx => ?_⟩
      · obtain ⟨es, h4, h5⟩ := hc 0 _ (List.getElem?_eq_getElem (List.length_pos_iff.2 hx))
        exact h4.lt (by rw [Rep.len h5]; exact Rep.pos)
      · obtain ⟨es, h4, h5⟩ := hc k x hx
        exact ⟨es, h4, Rep.old h5⟩

instance {α : Type} [Rep α] : Rep (List α) where
  size := 1
  pos := by omega
  rd w F xs cs := ∃ A c, cs = [.slice A xs.length c] ∧ xs.length ≤ c ∧ c ≤ 9223372036854775807 ∧ RdList w F xs A
  len h := by obtain ⟨A, c, rfl, _⟩ := h; rfl
  frame hf h := by
    obtain ⟨A, c, rfl, h1, h2, h3⟩ := h
    exact ⟨A, c, rfl, h1, h2, h3.frame hf⟩
  weak hf h := by
    obtain ⟨A, c, rfl, h1, h2, h3⟩ := h
    exact ⟨A, c, rfl, h1, h2, h3.weak hf⟩
  old h := by
    obtain ⟨A, c, rfl, h1, h2, h3⟩ := h
    exact ⟨A, c, rfl, h1, h2, h3.old⟩

theorem RdList.all {α : Type} [Rep α] {w : World} {F : Nat → Prop} {xs : List α} {A : Option Addr} (h : RdList w F xs A) : ∀ x ∈ xs, ∃ cs, Rep.rd w F x cs := by
  intro x hx
  obtain ⟨k, hk⟩ := List.getElem?_of_mem hx
  rcases h with rfl | ⟨b, o, _, _, hc⟩
  · simp at hx
  · obtain ⟨es, _, h5⟩ := hc k x hk
    exact ⟨es, h5⟩
theorem i64_of_rd {w : World} {F : Nat → Prop} {xs : List Int} {cs : List Value} (h : Rep.rd w F xs cs) : ∀ x ∈ xs, I64 x := by
  obtain ⟨A, c, _, _, _, hl⟩ := h
  intro x hx
  obtain ⟨cs, h⟩ := hl.all x hx
  exact h.2

/-- All blocks that were there. -/
def Old (w : World) (b : Nat) : Prop := b < w.heap.size

theorem Rep.oldB {α : Type} [Rep α] {w : World} {F : Nat → Prop} {x : α} {cs : List Value} (h : Rep.rd w F x cs) : Rep.rd w (Old w) x cs :=
  Rep.weak (fun _ hb => hb.2) (Rep.old h)
theorem Rep.below {α : Type} [Rep α] {w w' : World} {x : α} {cs : List Value} {B : Nat} (h : Rep.rd w (· < B) x cs) (hb : Below B w w') : Rep.rd w' (· < B) x cs :=
  Rep.frame (fun b hB => hb.block b hB) h
theorem Rep.later {α : Type} [Rep α] {w w' : World} {F : Nat → Prop} {x : α} {cs : List Value} (h : Rep.rd w F x cs) (hb : Below w.heap.size w w') : Rep.rd w' (Old w) x cs :=
  Rep.frame (fun b hB => hb.block b hB) (Rep.oldB h)

/-! ### Memory that is owned: each block by one place alone, none frozen -/

/-- Data of one Go type in memory of its own: fp: the blocks, in order. -/
class Own (α : Type) extends Rep α where
  tid : TypeId
  own : World → α → List Value → List Nat → Prop
  own_rd : ∀ {w : World} {x : α} {cs : List Value} {fp : List Nat}, own w x cs fp → Rep.rd w (· ∈ fp) x cs
  own_frame : ∀ {w w' : World} {x : α} {cs : List Value} {fp : List Nat}, (∀ b ∈ fp, w'.heap[b]? = w.heap[b]?) → own w x cs fp → own w' x cs fp
  own_lt : ∀ {w : World} {x : α} {cs : List Value} {fp : List Nat}, own w x cs fp → ∀ b ∈ fp, b < w.heap.size

/-- The blocks are new, and no two are one. -/
def Fresh (B : Nat) (fp : List Nat) : Prop := fp.Nodup ∧ ∀ b ∈ fp, B ≤ b

theorem Fresh.nil (B : Nat) : Fresh B [] := ⟨List.nodup_nil, fun _ h => by simp at h⟩
theorem Fresh.mono {B B' : Nat} {fp : List Nat} (h : Fresh B fp) (hB : B' ≤ B) : Fresh B' fp := ⟨h.1, fun b hb => Nat.le_trans hB (h.2 b hb)⟩
theorem Fresh.one {B g : Nat} (h : B ≤ g) : Fresh B [g] := ⟨by simp, fun b hb => by simp at hb; omega⟩
theorem Fresh.append {B : Nat} {fp fq : List Nat} (h : Fresh B fp) (k : Fresh B fq) (hd : ∀ b ∈ fp, b ∉ fq) : Fresh B (fp ++ fq) :=
  ⟨List.nodup_append.2 ⟨h.1, k.1, fun a ha b hb e => hd a ha (e ▸ hb)⟩, fun b hb => by
    rcases List.mem_append.1 hb with hb | hb
    · exact h.2 b hb
    · exact k.2 b hb⟩

instance : Own Int where
  tid := 3
  own _ x cs fp := (cs = [.int .i64 x] ∧ I64 x) ∧ fp = []
  own_rd h := h.1
  own_frame _ h := h
  own_lt h := by obtain ⟨_, rfl⟩ := h; intro b hb; simp at hb

instance : Own ByteArray where
  tid := 9
  own _ x cs fp := (cs = [.string x] ∧ x.size ≤ 9223372036854775807) ∧ fp = []
  own_rd h := h.1
  own_frame _ h := h
  own_lt h := by obtain ⟨_, rfl⟩ := h; intro b hb; simp at hb

/-- Element by element. -/
def OwnAll {α : Type} [Own α] (w : World) : List α → List (List Value) → List (List Nat) → Prop
  | [], [], [] => True
  | x :: xs, c :: cs, f :: fs => Own.own w x c f ∧ OwnAll w xs cs fs
  | _, _, _ => False

theorem OwnAll.snoc {α : Type} [Own α] {w : World} : ∀ {xs : List α} {cs : List (List Value)} {fs : List (List Nat)} {x : α} {c : List Value} {f : List Nat},
    OwnAll w xs cs fs → Own.own w x c f → OwnAll w (xs ++ [x]) (cs ++ [c]) (fs ++ [f])
  | [], [], [], _, _, _, _, h => ⟨h, trivial⟩
  | _ :: _, _ :: _, _ :: _, _, _, _, h, k => ⟨h.1, h.2.snoc k⟩
  | [], _ :: _, _, _, _, _, h, _ => h.elim
  | [], [], _ :: _, _, _, _, h, _ => h.elim
  | _ :: _, [], _, _, _, _, h, _ => h.elim
  | _ :: _, _ :: _, [], _, _, _, h, _ => h.elim

theorem OwnAll.frame {α : Type} [Own α] {w w' : World} : ∀ {xs : List α} {cs : List (List Value)} {fs : List (List Nat)},
    (∀ b ∈ fs.flatten, w'.heap[b]? = w.heap[b]?) → OwnAll w xs cs fs → OwnAll w' xs cs fs
  | [], [], [], _, _ => trivial
  | _ :: _, _ :: _, f :: fs, hf, h => ⟨Own.own_frame (fun b hb => hf b (by simp [hb])) h.1, h.2.frame fun b hb => hf b (by
      rw [List.flatten_cons]; exact List.mem_append_right _ hb)⟩
  | [], _ :: _, _, _, h => h.elim
  | [], [], _ :: _, _, h => h.elim
  | _ :: _, [], _, _, h => h.elim
  | _ :: _, _ :: _, [], _, h => h.elim

theorem OwnAll.lt {α : Type} [Own α] {w : World} : ∀ {xs : List α} {cs : List (List Value)} {fs : List (List Nat)}, OwnAll w xs cs fs → ∀ b ∈ fs.flatten, b < w.heap.size
  | [], [], [], _ => fun _ h => by simp at h
  | _ :: _, _ :: _, f :: fs, h => fun b hb => by
    rw [List.flatten_cons] at hb
    rcases List.mem_append.1 hb with hb | hb
    · exact Own.own_lt h.1 b hb
    · exact h.2.lt b hb
  | [], _ :: _, _, h => h.elim
  | [], [], _ :: _, h => h.elim
  | _ :: _, [], _, h => h.elim
  | _ :: _, _ :: _, [], h => h.elim

theorem OwnAll.len {α : Type} [Own α] {w : World} : ∀ {xs : List α} {cs : List (List Value)} {fs : List (List Nat)}, OwnAll w xs cs fs → cs.length = xs.length ∧ fs.length = xs.length ∧ cs.flatten.length = xs.length * Rep.size α
  | [], [], [], _ => by simp
  | _ :: xs, c :: cs, _ :: fs, h => by
    obtain ⟨h1, h2, h3⟩ := h.2.len
    refine ⟨by simp [h1], by simp [h2], ?_⟩
    rw [List.flatten_cons, List.length_append, h3, Rep.len (Own.own_rd h.1), List.length_cons, Nat.succ_mul]
    omega
  | [], _ :: _, _, h => h.elim
  | [], [], _ :: _, h => h.elim
  | _ :: _, [], _, h => h.elim
  | _ :: _, _ :: _, [], h => h.elim

/-- The k-th element's cells lie at k times the element's size. -/
theorem OwnAll.at_ {α : Type} [Own α] {w : World} : ∀ {xs : List α} {cs : List (List Value)} {fs : List (List Nat)}, OwnAll w xs cs fs → ∀ (k : Nat) (x : α), xs[k]? = some x →
    ∃ c f, Own.own w x c f ∧ (∀ b ∈ f, b ∈ fs.flatten) ∧ ∀ (j : Nat) (u : Value), c[j]? = some u → cs.flatten[k * Rep.size α + j]? = some u
  | [], [], [], _, _, _, h => by simp at h
  | x :: xs, c :: cs, f :: fs, h, 0, y, hy => by
    simp only [List.getElem?_cons_zero, Option.some.injEq] at hy
    subst hy
    refine ⟨c, f, h.1, fun b hb => by simp [hb], fun j u hu => ?_⟩
    rw [List.flatten_cons, Nat.zero_mul, Nat.zero_add, List.getElem?_append_left (List.getElem?_eq_some_iff.1 hu).1]
    exact hu
  | x :: xs, c :: cs, f :: fs, h, k + 1, y, hy => by
    rw [List.getElem?_cons_succ] at hy
    obtain ⟨c', f', h1, h2, h3⟩ := h.2.at_ k y hy
    refine ⟨c', f', h1, fun b hb => by rw [List.flatten_cons]; exact List.mem_append_right _ (h2 b hb), fun j u hu => ?_⟩
    have hl : c.length = Rep.size α := Rep.len (Own.own_rd h.1)
    rw [List.flatten_cons, List.getElem?_append_right (by rw [hl, Nat.succ_mul]; omega), hl]
    rw [show (k + 1) * Rep.size α + j - Rep.size α = k * Rep.size α + j from by rw [Nat.succ_mul]; omega]
    exact h3 j u hu
  | [], _ :: _, _, h, _, _, _ => h.elim
  | [], [], _ :: _, h, _, _, _ => h.elim
  | _ :: _, [], _, h, _, _, _ => h.elim
  | _ :: _, _ :: _, [], h, _, _, _ => h.elim

/-- A slice in memory of its own. -/
def OwnList {α : Type} [Own α] (w : World) (xs : List α) (v : Value) (fp : List Nat) : Prop :=
  ∃ css fps, w.ownsRow 0 (Own.tid α) (Rep.size α) v xs.length css.flatten ∧ OwnAll w xs css fps ∧ fp = v.ownBlock.toList ++ fps.flatten

theorem ownsRow_frame {w w' : World} {e : TypeId} {size n : Nat} {v : Value} {xs : List Value} (h : w.ownsRow 0 e size v n xs) (hf : ∀ b ∈ v.ownBlock.toList, w'.heap[b]? = w.heap[b]?) : w'.ownsRow 0 e size v n xs := by
  refine ⟨h.1, ?_⟩
  rcases h.2 with hn | ⟨g, cap, cur, rfl, hb, hg, rest⟩
  · exact .inl hn
  · exact .inr ⟨g, cap, cur, rfl, hb, (hf g (by simp [Value.ownBlock])).trans hg, rest⟩

theorem OwnList.rd {α : Type} [Own α] {w : World} {xs : List α} {v : Value} {fp : List Nat} (h : OwnList w xs v fp) : Rep.rd w (· ∈ fp) xs [v] := by
  obtain ⟨css, fps, h1, h2, rfl⟩ := h
  rcases h1.2 with ⟨rfl, hn⟩ | ⟨g, cap, cur, rfl, _, hg, hc, hm, hs, ht⟩
  · have hx := List.eq_nil_of_length_eq_zero hn
    subst hx
    exact ⟨none, 0, rfl, by simp, by omega, .inl rfl⟩
  · refine ⟨_, cap, rfl, hc, by simpa [maxLen] using hm, .inr ⟨g, 0, rfl, by simp [Value.ownBlock], fun k x hx => ?_⟩⟩
    obtain ⟨c, f, h3, h4, h5⟩ := h2.at_ k x hx
    refine ⟨c, fun j u hu => ?_, Rep.weak (fun b hb => List.mem_append_right _ (h4 b hb)) (Own.own_rd h3)⟩
    have h6 := h5 j u hu
    rw [← ht, List.getElem?_take] at h6
    split at h6
    · rw [Nat.zero_add, cell_of_row w g _ cur _ (0, 0) hg]
      simpa using h6
    · cases h6

theorem OwnList.frame {α : Type} [Own α] {w w' : World} {xs : List α} {v : Value} {fp : List Nat} (hf : ∀ b ∈ fp, w'.heap[b]? = w.heap[b]?) (h : OwnList w xs v fp) : OwnList w' xs v fp := by
  obtain ⟨css, fps, h1, h2, rfl⟩ := h
  exact ⟨css, fps, ownsRow_frame h1 fun b hb => hf b (List.mem_append_left _ hb), h2.frame fun b hb => hf b (List.mem_append_right _ hb), rfl⟩

theorem OwnList.lt {α : Type} [Own α] {w : World} {xs : List α} {v : Value} {fp : List Nat} (h : OwnList w xs v fp) : ∀ b ∈ fp, b < w.heap.size := by
  obtain ⟨css, fps, h1, h2, rfl⟩ := h
  intro b hb
  rcases List.mem_append.1 hb with hb | hb
  · exact (h1.lt b (by simpa using hb)).2
  · exact h2.lt b hb

theorem OwnList.nil {α : Type} [Own α] (w : World) : OwnList w ([] : List α) (.slice none 0 0) [] :=
  ⟨[], [], World.ownsRow_nil _ _ _ _, trivial, rfl⟩

/-- Slices in memory of their own, as elements of a slice: t: the slice type's number. -/
@[reducible] def ownOfList (α : Type) [Own α] (t : TypeId) : Own (List α) where
  tid := t
  own w xs cs fp := ∃ v, cs = [v] ∧ OwnList w xs v fp
  own_rd h := by obtain ⟨v, rfl, h⟩ := h; exact h.rd
  own_frame hf h := by obtain ⟨v, e, h⟩ := h; exact ⟨v, e, h.frame hf⟩
  own_lt h := by obtain ⟨v, _, h⟩ := h; exact h.lt
instance : Own (List Int) := ownOfList Int 22

end Go.Proofs.Ytjkpoffhnccanaa
