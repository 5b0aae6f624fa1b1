/-
  New rows: what make lays, rows that are filled one element after another, and the whole row as a slice in memory of its own. No statement of the program is proved here.
  Conditions: none.
-/
import Derived.Test.YtjkpoffhnccanaaOps
import Derived.Laws.MakeOwn
namespace Go.Proofs.Ytjkpoffhnccanaa
open Go.RowKit

/-- n times the same cells. -/
def rep (zs : List Value) : Nat → List Value
  | 0 => []
  | n + 1 => zs ++ rep zs n

theorem rep_len (zs : List Value) : ∀ n, (rep zs n).length = n * zs.length
  | 0 => by simp [rep]
  | n + 1 => by rw [rep, List.length_append, rep_len zs n, Nat.succ_mul]; omega
theorem rep_at (zs : List Value) : ∀ (n j : Nat), j < n * zs.length → (rep zs n)[j]? = zs[j % zs.length]?
  | 0, j, h => by omega
  | n + 1, j, h => by
    rw [rep]
    by_cases hj : j < zs.length
    · rw [List.getElem?_append_left hj, Nat.mod_eq_of_lt hj]
    · rw [List.getElem?_append_right (by omega), rep_at zs n (j - zs.length) (by rw [Nat.succ_mul] at h; omega), ← Nat.mod_eq_sub_mod (by omega)]
theorem madeCells_rep (zs : List Value) (n : Nat) (hz : 0 < zs.length) : madeCells zs.toArray (n * zs.length) = (rep zs n).toArray := by
  apply Array.ext_getElem?
  intro i
  by_cases hi : i < n * zs.length
  · have hm : i % zs.length < zs.length := Nat.mod_lt _ hz
    have := rep_at zs n i hi
    rw [List.getElem?_eq_getElem hm] at this
    simp [madeCells, hi, this, hm]
  · rw [Array.getElem?_eq_none (by simp [size_madeCells]; omega), Array.getElem?_eq_none (by simp [rep_len]; omega)]

/-- What make needs to know of a slice type: its element type, that one's zero cells, and its bytes. -/
class TyMake (P : Program) (t : TypeId) (e : outParam TypeId) (zs : outParam (List Value)) (bytes : outParam Nat) : Prop where
  slice : P.underlying t = some (.slice e)
  info : (P.info? e).map (fun i => (i.zero.map (·.cells.toList), i.size, i.bytes)) = some (some zs, zs.length, bytes)

section
variable {P : Program} {ops : Array Oper} {rest : List Oper} {Q : Exit → Act → World → Prop} {a : Act} {w w0 : World} {o : Oper} {H : List Hp}

theorem wpl_make (hg : o.guard = none) (t : TypeId) (l c : Operand) (ho : o.op = .makeSlice t l c) (hS : Sat w0 H w) {e : TypeId} {zs : List Value} {bytes : Nat} [hm : TyMake P t e zs bytes] {kl kc : IntKind} (n : Nat)
    (hl : a.eval l = .int kl (n : Int)) (hc : a.eval c = .int kc (n : Int)) (hz : 0 < zs.length) (hb : bytes * n ≤ 281474976710656) (h63 : n ≤ 9223372036854775807)
    (h : ∀ (g : Nat) (w' : World), Sat w0 (Hp.box g e (rep zs n) :: H) w' → wpList P ops Q rest (a.put o.dst (.slice (some ⟨g, 0, none⟩) n n)) w') : wpList P ops Q (o :: rest) a w := by
  obtain ⟨i, hi, hzz⟩ := Option.map_eq_some_iff.1 hm.info
  simp only [Prod.mk.injEq] at hzz
  obtain ⟨hz1, hs, hb1⟩ := hzz
  obtain ⟨z, hz2, hz3⟩ := Option.map_eq_some_iff.1 hz1
  have hb' : (i.bytes : Int) * (n : Int) ≤ 281474976710656 := by
    have h : ((i.bytes * n : Nat) : Int) ≤ 281474976710656 := by rw [hb1]; omega
    rwa [Int.natCast_mul] at h
  have hr := run_make (P := P) w t e i z hm.slice hi hz2 kl kc n n (by omega) (Int.le_refl _) hb' (by omega)
  have hzc : z.cells = zs.toArray := by rw [← hz3]
  simp only [Int.toNat_natCast, hs, hzc, madeCells_rep zs n hz] at hr
  refine wpl_val hg ?_ (h _ _ (hS.alloc e (rep zs n)))
  unfold execOp
  simp only [ho, hl, hc, Sem.run_bind, hr, Result.andThen_ok]
  rfl

/-- Elements in memory of their own. -/
def Hp.row {α : Type} [Own α] (xs : List α) (css : List (List Value)) (fps : List (List Nat)) : Hp where
  fp := fps.flatten
  says w := OwnAll w xs css fps
  frame hf h := h.frame hf
  lt h := h.lt

theorem setFrom_mid : ∀ (A B C c : List Value), B.length = c.length → setFrom (A ++ B ++ C) A.length c = A ++ c ++ C
  | A, B, C, [], h => by
    have := List.eq_nil_of_length_eq_zero h
    subst this
    rfl
  | A, [], C, d :: c, h => by simp at h
  | A, b :: B, C, d :: c, h => by
    have := setFrom_mid (A ++ [d]) B C c (by simpa using h)
    simp only [List.append_assoc, List.singleton_append, List.length_append, List.length_cons, List.length_nil, Nat.zero_add] at this
    rw [setFrom, ← show (A ++ (d :: (B ++ C))) = (A ++ (b :: B) ++ C).set A.length d from by simp]
    simpa [List.append_assoc] using this

theorem Sat.noRow {α : Type} [Own α] (h : Sat w0 H w) : Sat w0 (Hp.row ([] : List α) [] [] :: H) w :=
  h.more (Below.refl _ _) _ trivial (Fresh.nil _)

theorem Sat.swap {p q : Hp} (h : Sat w0 (p :: q :: H) w) : Sat w0 (q :: p :: H) w := h.perm (.swap _ _ _)
theorem Sat.rowLen {α : Type} [Own α] {xs : List α} {css : List (List Value)} {fps : List (List Nat)} {k : Nat} (h : Sat w0 H w) (hk : H[k]? = some (Hp.row xs css fps)) : css.flatten.length = xs.length * Rep.size α :=
  (OwnAll.len (h.says _ (List.mem_of_getElem? hk))).2.2

/-- One piece at most: pieces joined. -/
theorem Sat.join {p q r : Hp} (h : Sat w0 (p :: q :: H) w) (hfp : r.fp.Perm (p.fp ++ q.fp)) (hr : p.says w → q.says w → r.says w) : Sat w0 (r :: H) w := by
  have hnd := h.nodup
  rw [foot_cons, foot_cons, ← List.append_assoc] at hnd
  refine ⟨h.below, fun s hs => ?_, ?_, fun b hb => h.fresh b ?_⟩
  · rcases List.mem_cons.1 hs with rfl | hs
    · exact hr (h.says p (by simp)) (h.says q (by simp))
    · exact h.says s (by simp [hs])
  · rw [foot_cons]
    exact (hfp.append_right _).nodup_iff.2 hnd
  · rw [foot_cons] at hb
    rw [foot_cons, foot_cons, ← List.append_assoc]
    exact ((hfp.append_right _).mem_iff).1 hb

/-- An element laid into the row: its blocks are the row's from now on. -/
theorem Sat.put {α : Type} [Own α] {g : Nat} {t : TypeId} {zs : List Value} {xs : List α} {css : List (List Value)} {fps : List (List Nat)} {x : α} {cs : List Value} {f : List Nat} {n i : Nat}
    (h : Sat w0 (Hp.own x cs f :: Hp.box g t (css.flatten ++ rep zs (n + 1)) :: Hp.row xs css fps :: H) w) (hz : zs.length = Rep.size α) (hi : i = xs.length * Rep.size α) :
    Sat w0 (Hp.box g t ((css ++ [cs]).flatten ++ rep zs n) :: Hp.row (xs ++ [x]) (css ++ [cs]) (fps ++ [f]) :: H) (w.setCells g i cs) := by
  have hl : css.flatten.length = xs.length * Rep.size α := h.rowLen (k := 2) rfl
  have ho : Own.own w x cs f := h.says (Hp.own x cs f) (by simp)
  have hc : cs.length = zs.length := by rw [hz]; exact Rep.len (Own.own_rd ho)
  have h1 := h.stores cs (k := 1) rfl i
  subst hi
  rw [← hl, rep, ← List.append_assoc, setFrom_mid _ _ _ _ hc.symm] at h1
  rw [hl] at h1
  have h2 := (show Sat w0 (Hp.own x cs f :: Hp.box g t (css.flatten ++ cs ++ rep zs n) :: Hp.row xs css fps :: H) _ from h1)
  have h3 := h2.swap
  have h4 : Sat w0 (Hp.own x cs f :: Hp.row xs css fps :: Hp.box g t (css.flatten ++ cs ++ rep zs n) :: H) _ := h3.perm (by
    refine .trans (.swap _ _ _) ?_
    exact (List.Perm.swap _ _ _).cons _)
  have h5 := h4.join (r := Hp.row (xs ++ [x]) (css ++ [cs]) (fps ++ [f])) (by
    show (fps ++ [f]).flatten.Perm (f ++ fps.flatten)
    rw [List.flatten_append]
    simpa using List.perm_append_comm) (fun a b => OwnAll.snoc b a)
  have h6 := h5.swap
  rw [show (css ++ [cs]).flatten = css.flatten ++ cs by simp]
  exact h6

theorem wpl_put1 {α : Type} [Own α] (hg : o.guard = none) (t : TypeId) (x y : Operand) (ho : o.op = .store t x y) {g : Nat} {bt : TypeId} {zs : List Value} {xs : List α} {css : List (List Value)} {fps : List (List Nat)} {z : α} {v : Value} {f : List Nat} {n i : Nat}
    (hS : Sat w0 (Hp.own z [v] f :: Hp.box g bt (css.flatten ++ rep zs (n + 1)) :: Hp.row xs css fps :: H) w) (hx : a.eval x = .pointer (some ⟨g, i, none⟩)) [TyOne P t] (hy : a.eval y = v) (h1 : v.oneCell' = true)
    (hz : zs.length = Rep.size α) (hi : i = xs.length * Rep.size α)
    (h : ∀ w', Sat w0 (Hp.box g bt ((css ++ [[v]]).flatten ++ rep zs n) :: Hp.row (xs ++ [z]) (css ++ [[v]]) (fps ++ [f]) :: H) w' → wpList P ops Q rest (a.put o.dst undef) w') : wpList P ops Q (o :: rest) a w := by
  have hl : css.flatten.length = xs.length * Rep.size α := hS.rowLen (k := 2) rfl
  have hpos : 0 < Rep.size α := Rep.pos
  have hold : ∃ old, (css.flatten ++ rep zs (n + 1))[i]? = some old := by
    rw [rep]
    exact ⟨_, List.getElem?_eq_getElem (by simp only [List.length_append]; omega)⟩
  obtain ⟨old, hold⟩ := hold
  exact wpl_skip hg (exec_store t x y ho hx hy (run_storeAt_one t g i v old h1 (by rw [hS.cell (k := 1) rfl, hold]) (hS.frozen (k := 1) rfl i))) (h _ (by simpa [World.setCells] using hS.put hz hi))

theorem wpl_putN {α : Type} [Own α] (hg : o.guard = none) (t : TypeId) (x y : Operand) (ho : o.op = .store t x y) {g : Nat} {bt : TypeId} {zs : List Value} {xs : List α} {css : List (List Value)} {fps : List (List Nat)} {z : α} {cs : List Value} {f : List Nat} {n m i : Nat}
    (hS : Sat w0 (Hp.own z cs f :: Hp.box g bt (css.flatten ++ rep zs (n + 1)) :: Hp.row xs css fps :: H) w) (hx : a.eval x = .pointer (some ⟨g, i, none⟩)) [hr : TyRow P t m] (hy : a.eval y = .agg cs.toArray) (h1 : cs.all (·.oneCell') = true) (hm : Rep.size α = m)
    (hz : zs.length = Rep.size α) (hi : i = xs.length * Rep.size α)
    (h : ∀ w', Sat w0 (Hp.box g bt ((css ++ [cs]).flatten ++ rep zs n) :: Hp.row (xs ++ [z]) (css ++ [cs]) (fps ++ [f]) :: H) w' → wpList P ops Q rest (a.put o.dst undef) w') : wpList P ops Q (o :: rest) a w := by
  have hl : css.flatten.length = xs.length * Rep.size α := hS.rowLen (k := 2) rfl
  have ho' : Own.own w z cs f := hS.says (Hp.own z cs f) (by simp)
  have hc : cs.length = Rep.size α := Rep.len (Own.own_rd ho')
  refine wpl_skip hg (exec_store t x y ho hx hy (run_storeAt_mid w g i t cs.toArray (fun j hj => ⟨?_, hS.frozen (k := 1) rfl _⟩) (by rw [hr.size]; simp [hc, hm]) (by simpa using h1))) (h _ (by simpa using hS.put hz hi))
  rw [hS.cell (k := 1) rfl, List.getElem?_eq_getElem (by
    simp only [rep, List.length_append]
    simp at hj
    omega)]
  rfl

/-- The row is full: a slice in memory of its own. -/
theorem Sat.full {α : Type} [Own α] {g n : Nat} {zs : List Value} {xs : List α} {css : List (List Value)} {fps : List (List Nat)} (h : Sat w0 (Hp.box g (Own.tid α) (css.flatten ++ rep zs 0) :: Hp.row xs css fps :: H) w) (hn : xs.length = n) (hm : n ≤ 9223372036854775807) :
    OwnList w xs (.slice (some ⟨g, 0, none⟩) n n) (g :: fps.flatten) ∧ Fresh w0.heap.size (g :: fps.flatten) := by
  have hl : css.flatten.length = xs.length * Rep.size α := h.rowLen (k := 1) rfl
  have hb : w.heap[g]? = some (.cells (css.flatten ++ rep zs 0).toArray (Own.tid α) (0, 0)) := h.box (k := 0) rfl
  rw [rep, List.append_nil] at hb
  have ho : OwnAll w xs css fps := h.says (Hp.row xs css fps) (by simp)
  subst hn
  refine ⟨⟨css, fps, ⟨hl, .inr ⟨g, xs.length, _, rfl, Nat.zero_le _, hb, Nat.le_refl _, by simpa [maxLen] using hm, by simpa using hl, by show css.flatten.take (xs.length * Rep.size α) = css.flatten; rw [← hl]; exact List.take_length⟩⟩, ho, rfl⟩, ?_, fun b hb' => h.fresh b ?_⟩
  · have := h.nodup
    rw [foot_cons, foot_cons, ← List.append_assoc] at this
    exact (List.nodup_append.1 this).1
  · rw [foot_cons, foot_cons, ← List.append_assoc]
    exact List.mem_append_left _ hb'
end
end Go.Proofs.Ytjkpoffhnccanaa
