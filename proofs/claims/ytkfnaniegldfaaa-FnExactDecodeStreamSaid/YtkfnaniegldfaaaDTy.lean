/-
  What the rules ask of a program's types, each as a closed fact. No statement of the program is proved here.
  Conditions: none.
-/
import Derived.WalkKit
import Derived.Deep.MidRow
namespace Go.Proofs.Ytkfnaniegldfaaa
open Go.RowKit

/-- Is a type's value a row of cells? -/
def rowTy (P : Program) (t : TypeId) : Bool := match P.underlying t with | some d => d.isRow | none => false
/-- A type whose value is a row of n cells. -/
class TyRow (P : Program) (t : TypeId) (n : outParam Nat) : Prop where
  row : rowTy P t = true
  size : (P.info? t).map (·.size) = some n
/-- A type whose value is one cell. -/
class TyOne (P : Program) (t : TypeId) : Prop where
  one : rowTy P t = false
  known : (P.underlying t).isSome = true
  size : (P.info? t).map (·.size) = some 1
/-- A type's zero value. -/
class TyZero (P : Program) (t : TypeId) (zs : outParam (List Value)) : Prop where
  zero : (P.info? t).map (fun i => i.zero.map (·.cells.toList)) = some (some zs)
/-- A slice type: its element type, that one's zero cells, and its bytes. -/
class TyMake (P : Program) (t : TypeId) (e : outParam TypeId) (zs : outParam (List Value)) (bytes : outParam Nat) : Prop where
  slice : P.underlying t = some (.slice e)
  info : (P.info? e).map (fun i => (i.zero.map (·.cells.toList), i.size, i.bytes)) = some (some zs, zs.length, bytes)
/-- Where the fields of a struct type lie: place and number of cells. -/
def placesOf (P : Program) (t : TypeId) : Option (List (Nat × Nat)) :=
  match P.underlying t with
  | some (.struct fs) => fs.toList.mapM fun f => (P.info? f.type).map fun i => (f.offset, i.size)
  | _ => none
class TyPl (P : Program) (t : TypeId) (ps : outParam (List (Nat × Nat))) : Prop where
  places : placesOf P t = some ps
class TyStr (P : Program) (t : TypeId) : Prop where
  str : P.underlying t = some .string
class TyInt (P : Program) (t : TypeId) (k : outParam IntKind) : Prop where
  int : P.underlying t = some (.int k)
class TyBool (P : Program) (t : TypeId) : Prop where
  bool : P.underlying t = some .bool
/-- An array type. -/
class TyArr (P : Program) (t : TypeId) (n : outParam Nat) (k : outParam Nat) : Prop where
  arr : (match P.underlying t with | some (.array n e) => (P.info? e).map fun i => (n, i.size) | _ => none) = some (n, k)

theorem add_lit (b o m : Nat) : (⟨b, o, none⟩ : Addr).add m = ⟨b, o + m, none⟩ := by
  unfold Addr.add
  split
  · rename_i e
    subst e
    rfl
  · rfl

section
variable {P : Program} {w : World}

/-- The cells from offset o of block b on are cs. -/
def Cells (w : World) (b o : Nat) (cs : List Value) : Prop := ∀ (j : Nat) (u : Value), cs[j]? = some u → w.cell? ⟨b, o + j, none⟩ = some u

theorem run_loadAt_cells (t : TypeId) (b i n : Nat) (cs : List Value) [hr : TyRow P t n] (hc : Cells w b i cs) (hl : cs.length = n) :
    (Instr.loadAt t (.pointer (some ⟨b, i, none⟩))).run P w = .ok (.agg cs.toArray) w := by
  have h := hr.row
  have hn := hr.size
  unfold rowTy at h
  split at h
  · exact run_loadAt_mid w b i t cs _ hc (by assumption) h (by rw [hn, hl])
  · cases h
theorem run_loadAt_cell (t : TypeId) [ht : TyOne P t] (b i : Nat) (v : Value) (hc : w.cell? ⟨b, i, none⟩ = some v) :
    (Instr.loadAt t (.pointer (some ⟨b, i, none⟩))).run P w = .ok v w := by
  obtain ⟨d, hd⟩ := Option.isSome_iff_exists.1 ht.known
  have hr := ht.one
  have hagg : (isAgg t).run P w = .ok false w := by
    unfold isAgg
    rw [Sem.run_bind, run_underlying hd w]
    unfold rowTy at hr
    rw [hd] at hr
    cases d <;> simp_all [TypeDesc.isRow]
  simp [Instr.loadAt, Instr.sureAddr, loadVar, hagg, load, Sem.run, hc]
theorem run_storeAt_one (t : TypeId) [ht : TyOne P t] (b i : Nat) (v old : Value) (h1 : v.oneCell' = true) (hc : w.cell? ⟨b, i, none⟩ = some old) (hf : w.frozen? ⟨b, i, none⟩ = false) :
    (Instr.storeAt t (.pointer (some ⟨b, i, none⟩)) v).run P w = .ok () (w.setCell ⟨b, i, none⟩ v) := by
  obtain ⟨j, hj, hj1⟩ := Option.map_eq_some_iff.1 ht.size
  have hvc : v.cells = #[v] := by cases v <;> first | rfl | (simp [Value.oneCell'] at h1)
  have hadd : (⟨b, i, none⟩ : Addr).add 0 = ⟨b, i, none⟩ := by simp [Addr.add]
  simp [Instr.storeAt, Instr.sureAddr, storeVar, sizeOf, typeInfo, hj, hj1, hvc, storeCells, hadd, run_store P w _ v .plain h1, hc, hf]
theorem run_zeroValue (t : TypeId) {zs : List Value} [hz : TyZero P t zs] : ∃ z, (zeroValue t).run P w = .ok z w ∧ z.cells = zs.toArray := by
  obtain ⟨i, hi, hz'⟩ := Option.map_eq_some_iff.1 hz.zero
  obtain ⟨z, hz1, hz2⟩ := Option.map_eq_some_iff.1 hz'
  exact ⟨z, by simp [zeroValue, typeInfo, hi, hz1], by rw [← hz2]⟩
theorem mapM_get {α β : Type} {f : α → Option β} : ∀ {l : List α} {r : List β}, l.mapM f = some r → ∀ i : Nat, r[i]? = (l[i]?).bind f
  | [], r, h, i => by simp at h; subst h; simp
  | a :: l, r, h, i => by
    rw [List.mapM_cons] at h
    cases hf : f a with
    | none => simp [hf] at h
    | some b =>
      cases hm : l.mapM f with
      | none => simp [hf, hm] at h
      | some r' =>
        simp [hf, hm] at h
        subst h
        cases i with
        | zero => simp [hf]
        | succ i => simpa using mapM_get hm i
theorem run_fieldAt (s : TypeId) (b i f : Nat) {ps : List (Nat × Nat)} [hp : TyPl P s ps] {o n : Nat} (h : ps[f]? = some (o, n)) (hn : n ≠ 0) :
    (Instr.fieldAt s (.pointer (some ⟨b, i, none⟩)) f).run P w = .ok (.pointer (some ⟨b, i + o, none⟩)) w := by
  have hp' := hp.places
  unfold placesOf at hp'
  split at hp'
  · rename_i fs hu
    have h1 := mapM_get hp' f
    rw [h] at h1
    cases hf : fs.toList[f]? with
    | none => simp [hf] at h1
    | some fd =>
      rw [hf] at h1
      obtain ⟨inf, h2, h3⟩ := Option.map_eq_some_iff.1 (show (P.info? fd.type).map (fun i => (fd.offset, i.size)) = some (o, n) from h1.symm)
      simp only [Prod.mk.injEq] at h3
      obtain ⟨h3, h4⟩ := h3
      have hf' : fs[f]? = some fd := by simpa using hf
      simp [Instr.fieldAt, run_underlying hu, hf', Instr.sureAddr, fieldPlace, sizeOf, typeInfo, h2, h4, hn, h3, add_lit]
  · cases hp'
theorem run_indexAt_sl (t : TypeId) (b o n c : Nat) (k : IntKind) (i : Int) {e : TypeId} {zs : List Value} {by_ : Nat} [hm : TyMake P t e zs by_] (h0 : 0 ≤ i) (h1 : i < n) :
    (Instr.indexAt t (.slice (some ⟨b, o, none⟩) n c) (.int k i)).run P w = .ok (.pointer (some ⟨b, o + i.toNat * zs.length, none⟩)) w := by
  obtain ⟨inf, hi, hzz⟩ := Option.map_eq_some_iff.1 hm.info
  simp only [Prod.mk.injEq] at hzz
  obtain ⟨hz1, hs, hb1⟩ := hzz
  have hc : (0 ≤ i ∧ i < (n : Int)) := ⟨h0, h1⟩
  simp only [Instr.indexAt, asIntOf, Sem.run_bind, Sem.run_pure, Result.andThen_ok, run_underlying hm.slice]
  rw [if_pos hc]
  simp [sizeOf, typeInfo, hi, hs, add_lit]
end
end Go.Proofs.Ytkfnaniegldfaaa
