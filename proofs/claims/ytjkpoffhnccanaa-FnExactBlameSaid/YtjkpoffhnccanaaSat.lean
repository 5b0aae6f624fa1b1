/-
  A call's own memory as a list of blocks, each known whole or owned by one datum, the world itself a variable: what each operation on such blocks does. No statement of the program is proved here.
  Conditions: none.
-/
import Derived.Test.YtjkpoffhnccanaaMem
import Derived.Handy
import Derived.Deep.QuietTactic
import Derived.BigQuiet
import Derived.StillTail
import Derived.WalkSmall
import Derived.Lib.Hide
namespace Go.Proofs.Ytjkpoffhnccanaa
open Go.RowKit

theorem perm_erase {α : Type _} : ∀ (l : List α) (k : Nat) (h : k < l.length), (l[k] :: l.eraseIdx k).Perm l
  | a :: l, 0, _ => by simp
  | a :: l, k + 1, h => by
    simp only [List.getElem_cons_succ, List.eraseIdx_cons_succ]
    exact (List.Perm.swap _ _ _).trans ((perm_erase l k (by simpa using h)).cons a)
theorem erase_set {α : Type _} (b : α) : ∀ (l : List α) (k : Nat), (l.set k b).eraseIdx k = l.eraseIdx k
  | [], _ => by simp
  | a :: l, 0 => by simp
  | a :: l, k + 1 => by simp [erase_set b l k]

/-- A piece of the call's own memory: its blocks, and what is known of them. -/
structure Hp where
  fp : List Nat
  says : World → Prop
  frame : ∀ {w w' : World}, (∀ b ∈ fp, w'.heap[b]? = w.heap[b]?) → says w → says w'
  lt : ∀ {w : World}, says w → ∀ b ∈ fp, b < w.heap.size

/-- A block that is known whole. -/
def Hp.box (g : Nat) (t : TypeId) (vs : List Value) : Hp where
  fp := [g]
  says w := w.heap[g]? = some (.cells vs.toArray t (0, 0))
  frame hf h := (hf g (by simp)).trans h
  lt h b hb := by
    simp only [List.mem_singleton] at hb
    subst hb
    exact (Array.getElem?_eq_some_iff.1 h).1

/-- A datum in memory of its own. -/
def Hp.own {α : Type} [Own α] (x : α) (cs : List Value) (fp : List Nat) : Hp where
  fp := fp
  says w := Own.own w x cs fp
  frame hf h := Own.own_frame hf h
  lt h := Own.own_lt h

/-- The blocks of all pieces. -/
def foot (H : List Hp) : List Nat := (H.map Hp.fp).flatten

theorem foot_cons (h : Hp) (H : List Hp) : foot (h :: H) = h.fp ++ foot H := by simp [foot]
theorem mem_foot {H : List Hp} {h : Hp} (m : h ∈ H) {b : Nat} (hb : b ∈ h.fp) : b ∈ foot H := by
  simp only [foot, List.mem_flatten, List.mem_map]
  exact ⟨h.fp, ⟨h, m, rfl⟩, hb⟩

/-- Since w0 nothing that was there has turned; beside it the call owns H. -/
structure Sat (w0 : World) (H : List Hp) (w : World) : Prop where
  below : Below w0.heap.size w0 w
  says : ∀ h ∈ H, h.says w
  nodup : (foot H).Nodup
  fresh : ∀ b ∈ foot H, w0.heap.size ≤ b

section
variable {w0 w w' : World} {H H' : List Hp}

theorem Sat.refl (w : World) : Sat w [] w := ⟨Below.refl _ _, fun _ h => by simp at h, by simp [foot], fun _ h => by simp [foot] at h⟩

theorem Sat.foot_lt (h : Sat w0 H w) : ∀ b ∈ foot H, b < w.heap.size := by
  intro b hb
  simp only [foot, List.mem_flatten, List.mem_map] at hb
  obtain ⟨l, ⟨p, hp, rfl⟩, hb⟩ := hb
  exact p.lt (h.says p hp) b hb

/-- Nothing that was there turned: a call that hands back plain values. -/
theorem Sat.step (h : Sat w0 H w) (hb : Below w.heap.size w w') : Sat w0 H w' :=
  ⟨h.below.trans (hb.mono h.below.size), fun p hp => p.frame (fun b hb' => hb.block b (p.lt (h.says p hp) b hb')) (h.says p hp), h.nodup, h.fresh⟩

theorem Sat.drew (h : Sat w0 H w) : Sat w0 H w.drew := h.step (Below.refl _ _).drew
theorem Sat.drewN (h : Sat w0 H w) (n : Nat) : Sat w0 H (w.drewN n) := h.step (below_drewN (Below.refl _ _) n)

/-- A new piece. -/
theorem Sat.more (h : Sat w0 H w) (hb : Below w.heap.size w w') (p : Hp) (hp : p.says w') (hf : Fresh w.heap.size p.fp) : Sat w0 (p :: H) w' := by
  have h1 := h.step hb
  refine ⟨h1.below, fun q hq => ?_, ?_, fun b hb' => ?_⟩
  · rcases List.mem_cons.1 hq with rfl | hq
    · exact hp
    · exact h1.says q hq
  · rw [foot_cons]
    exact List.nodup_append.2 ⟨hf.1, h.nodup, fun a ha b hb' e => by
      have := hf.2 a ha
      have := h.foot_lt b hb'
      omega⟩
  · rw [foot_cons] at hb'
    rcases List.mem_append.1 hb' with hb' | hb'
    · exact Nat.le_trans h.below.size (hf.2 b hb')
    · exact h.fresh b hb'

theorem Sat.alloc (h : Sat w0 H w) (t : TypeId) (vs : List Value) : Sat w0 (Hp.box w.heap.size t vs :: H) (w.alloc (.cells vs.toArray t)) :=
  h.more ((Below.refl _ _).alloc (Nat.le_refl _) _) _ (heap_alloc_new w _) (Fresh.one (Nat.le_refl _))

/-- Fewer pieces, or in another order. -/
theorem Sat.perm (h : Sat w0 H w) (hp : H.Perm H') : Sat w0 H' w := by
  have h1 : (foot H).Perm (foot H') := (hp.map Hp.fp).flatten
  exact ⟨h.below, fun p hp' => h.says p (hp.mem_iff.2 hp'), h1.nodup_iff.1 h.nodup, fun b hb => h.fresh b (h1.mem_iff.2 hb)⟩
theorem Sat.tail {p : Hp} (h : Sat w0 (p :: H) w) : Sat w0 H w := by
  have hn := h.nodup
  rw [foot_cons] at hn
  exact ⟨h.below, fun q hq => h.says q (List.mem_cons_of_mem _ hq), (List.nodup_append.1 hn).2.1, fun b hb => h.fresh b (by rw [foot_cons]; exact List.mem_append_right _ hb)⟩
theorem Sat.front {k : Nat} {p : Hp} (h : Sat w0 H w) (hk : H[k]? = some p) : Sat w0 (p :: H.eraseIdx k) w := by
  obtain ⟨hlt, hget⟩ := List.getElem?_eq_some_iff.1 hk
  subst hget
  exact h.perm (perm_erase H k hlt).symm
theorem Sat.back {k : Nat} {p q : Hp} (h : Sat w0 (q :: H.eraseIdx k) w) (hk : H[k]? = some p) : Sat w0 (H.set k q) w := by
  obtain ⟨hlt, _⟩ := List.getElem?_eq_some_iff.1 hk
  refine h.perm ?_
  have h1 : k < (H.set k q).length := by simpa using hlt
  have h2 := perm_erase _ k h1
  rw [List.getElem_set_self, erase_set] at h2
  exact h2

/-- One piece has turned, its blocks alone. -/
theorem Sat.turn {p q : Hp} (h : Sat w0 (p :: H) w) (hos : w'.os = w.os) (htape : w'.tape = w.tape) (hout : w'.output = w.output) (hsize : w.heap.size ≤ w'.heap.size)
    (hkeep : ∀ b, b < w.heap.size → b ∉ p.fp → w'.heap[b]? = w.heap[b]?) (hq : q.says w') (hn : q.fp.Nodup) (hqf : ∀ b ∈ q.fp, b ∈ p.fp ∨ w.heap.size ≤ b) : Sat w0 (q :: H) w' := by
  have hnd := h.nodup
  rw [foot_cons] at hnd
  obtain ⟨hp1, hH1, hdis⟩ := List.nodup_append.1 hnd
  have hb0 : Below w0.heap.size w w' := ⟨hos, htape, hout, hsize, fun b hb => hkeep b (Nat.lt_of_lt_of_le hb h.below.size) fun hm => by
    have := h.fresh b (by rw [foot_cons]; exact List.mem_append_left _ hm)
    omega⟩
  refine ⟨h.below.trans hb0, fun r hr => ?_, ?_, fun b hb => ?_⟩
  · rcases List.mem_cons.1 hr with rfl | hr
    · exact hq
    · have hs := h.says r (List.mem_cons_of_mem _ hr)
      exact r.frame (fun b hb => hkeep b (r.lt hs b hb) fun hm => hdis b hm b (mem_foot hr hb) rfl) hs
  · rw [foot_cons]
    refine List.nodup_append.2 ⟨hn, hH1, fun a ha b hb e => ?_⟩
    subst e
    rcases hqf a ha with h1 | h1
    · exact hdis a h1 a hb rfl
    · have := h.tail.foot_lt a hb
      omega
  · rw [foot_cons] at hb
    rcases List.mem_append.1 hb with hb | hb
    · rcases hqf b hb with h1 | h1
      · exact h.fresh b (by rw [foot_cons]; exact List.mem_append_left _ h1)
      · exact Nat.le_trans h.below.size h1
    · exact h.fresh b (by rw [foot_cons]; exact List.mem_append_right _ hb)

theorem Sat.box (h : Sat w0 H w) {k g : Nat} {t : TypeId} {vs : List Value} (hk : H[k]? = some (Hp.box g t vs)) : w.heap[g]? = some (.cells vs.toArray t (0, 0)) :=
  h.says _ (List.mem_of_getElem? hk)
theorem Sat.cell (h : Sat w0 H w) {k g : Nat} {t : TypeId} {vs : List Value} (hk : H[k]? = some (Hp.box g t vs)) (i : Nat) : w.cell? ⟨g, i, none⟩ = vs[i]? := by
  rw [cell_of_row w g i vs.toArray t (0, 0) (h.box hk)]
  simp
theorem Sat.frozen (h : Sat w0 H w) {k g : Nat} {t : TypeId} {vs : List Value} (hk : H[k]? = some (Hp.box g t vs)) (i : Nat) : w.frozen? ⟨g, i, none⟩ = false := by
  simp [World.frozen?, h.box hk]
theorem Sat.store (h : Sat w0 H w) {k g : Nat} {t : TypeId} {vs : List Value} (hk : H[k]? = some (Hp.box g t vs)) (i : Nat) (v : Value) :
    Sat w0 (H.set k (Hp.box g t (vs.set i v))) (w.setCell ⟨g, i, none⟩ v) := by
  refine Sat.back ?_ hk
  refine (h.front hk).turn rfl rfl rfl (by simp [World.setCell]) (fun b hb hm => Below.heap_setCell _ _ _ _ (by intro e; exact hm (by simp [Hp.box, e]))) ?_ (by simp [Hp.box]) (fun b hb => .inl hb)
  show (w.setCell ⟨g, i, none⟩ v).heap[g]? = some (.cells (vs.set i v).toArray t (0, 0))
  simp [World.setCell, Array.getElem?_modify, h.box hk]

/-- What was there when the call began, read now. -/
theorem Sat.old {α : Type} [Rep α] {F : Nat → Prop} {x : α} {cs : List Value} (h : Sat w0 H w) (hr : Rep.rd w0 F x cs) : Rep.rd w (Old w) x cs :=
  Rep.weak (fun _ hb => Nat.lt_of_lt_of_le hb h.below.size) (Rep.later hr h.below)
theorem Sat.old' {α : Type} [Rep α] {F : Nat → Prop} {xs : List α} {A : Option Addr} (h : Sat w0 H w) (hr : RdList w0 F xs A) : RdList w (Old w) xs A :=
  RdList.weak (fun _ hb => Nat.lt_of_lt_of_le hb h.below.size) (RdList.frame (fun b hb => h.below.block b hb.2) (F := fun b => F b ∧ b < w0.heap.size) (RdList.old hr) |>.weak fun _ hb => hb.2)
/-- What the call owns, read now. -/
theorem Sat.mine {α : Type} [Own α] {x : α} {cs : List Value} {fp : List Nat} {k : Nat} (h : Sat w0 H w) (hk : H[k]? = some (Hp.own x cs fp)) : Rep.rd w (Old w) x cs := by
  have hs : Own.own w x cs fp := h.says _ (List.mem_of_getElem? hk)
  exact Rep.weak (fun b hb => Own.own_lt hs b hb) (Own.own_rd hs)
theorem Sat.cells (h : Sat w0 H w) {b o : Nat} {cs : List Value} (hb : b < w0.heap.size) (hc : Cells w0 b o cs) : Cells w b o cs :=
  hc.of_block (h.below.block b hb)
end

end Go.Proofs.Ytjkpoffhnccanaa
