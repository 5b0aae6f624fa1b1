/-
  What single operations do over a call's own memory: new blocks, loads, stores, the reading of results, with the world a variable. No statement of the program is proved here.
  Conditions: none.
-/
import Derived.Test.YtjkpoffhnccanaaSat
import Derived.Deep.MidRow
namespace Go.Proofs.Ytjkpoffhnccanaa
open Go.RowKit

section
variable {P : Program} {ops : Array Oper} {rest : List Oper} {Q : Exit → Act → World → Prop} {a : Act} {w w0 : World} {o : Oper} {H : List Hp}

theorem wpl_val (hg : o.guard = none) {v : Value} {w' : World} (hrun : (execOp a.eval o).run P w = .ok (.value v) w') (h : wpList P ops Q rest (a.put o.dst v) w') : wpList P ops Q (o :: rest) a w :=
  wpList_plain hg fun K hK => by unfold Oper.wp; rw [hrun]; exact hK _ _ h
theorem wpl_skip (hg : o.guard = none) {w' : World} (hrun : (execOp a.eval o).run P w = .ok .skip w') (h : wpList P ops Q rest (a.put o.dst undef) w') : wpList P ops Q (o :: rest) a w :=
  wpList_plain hg fun K hK => by unfold Oper.wp; rw [hrun]; exact hK _ _ h

/-- Which operation stands next? -/
theorem at_load {t : TypeId} {x : Operand} (_ : o.op = .load t x) (h : wpList P ops Q (o :: rest) a w) : wpList P ops Q (o :: rest) a w := h
theorem at_store {t : TypeId} {x y : Operand} (_ : o.op = .store t x y) (h : wpList P ops Q (o :: rest) a w) : wpList P ops Q (o :: rest) a w := h

/-- Is a type's value a row of cells? -/
def rowTy (P : Program) (t : TypeId) : Bool := match P.underlying t with | some d => d.isRow | none => false
/-- A type whose value is a row of n cells. -/
class TyRow (P : Program) (t : TypeId) (n : outParam Nat) : Prop where
  row : rowTy P t = true
  size : (P.info? t).map (·.size) = some n
/-- A type whose value is one cell. -/
class TyOne (P : Program) (t : TypeId) : Prop where
  one : rowTy P t = false
  known : (P.underlying t).isSome = true
  size : (P.info? t).map (·.size) = some 1
/-- A type's zero value. -/
class TyZero (P : Program) (t : TypeId) (zs : outParam (List Value)) : Prop where
  zero : (P.info? t).map (fun i => i.zero.map (·.cells.toList)) = some (some zs)

/-! ### New blocks -/
/-- A parameter in a block of its own. -/
theorem wpl_box (hg : o.guard = none) (t : TypeId) (x : Operand) (ho : o.op = .box t x) (hS : Sat w0 H w) (cs : List Value) (hv : a.eval x = .agg cs.toArray)
    (h : ∀ (g : Nat) (w' : World), Sat w0 (Hp.box g t cs :: H) w' → wpList P ops Q rest (a.put o.dst (.pointer (some ⟨g, 0, none⟩))) w') : wpList P ops Q (o :: rest) a w := by
  refine wpl_val (w' := w.alloc (.cells cs.toArray t)) (v := .pointer (some ⟨w.heap.size, 0, none⟩)) hg ?_ (h _ _ (hS.alloc t cs))
  unfold execOp
  simp only [ho, hv]
  rfl

theorem wpl_alloc (hg : o.guard = none) (t : TypeId) (ho : o.op = .alloc t) (hS : Sat w0 H w) {zs : List Value} [hz : TyZero P t zs]
    (h : ∀ (g : Nat) (w' : World), Sat w0 (Hp.box g t zs :: H) w' → wpList P ops Q rest (a.put o.dst (.pointer (some ⟨g, 0, none⟩))) w') : wpList P ops Q (o :: rest) a w := by
  obtain ⟨i, hi, hz'⟩ := Option.map_eq_some_iff.1 hz.zero
  obtain ⟨z, hz1, hz2⟩ := Option.map_eq_some_iff.1 hz'
  have hzv : (zeroValue t).run P w = .ok z w := by simp [zeroValue, typeInfo, hi, hz1]
  refine wpl_val (w' := w.alloc (.cells z.cells t)) (v := .pointer (some ⟨w.heap.size, 0, none⟩)) hg ?_ (h _ _ ?_)
  · unfold execOp
    simp only [ho, Instr.alloc, Sem.run_bind, hzv, Result.andThen_ok]
    rfl
  · have := hS.alloc t zs
    rw [← hz2] at this ⊢
    simpa using this

/-! ### Loads -/
theorem run_loadAt_cells (t : TypeId) (b i n : Nat) (cs : List Value) (hr : rowTy P t = true) (hn : (P.info? t).map (·.size) = some n) (hc : Cells w b i cs) (hl : cs.length = n) :
    (Instr.loadAt t (.pointer (some ⟨b, i, none⟩))).run P w = .ok (.agg cs.toArray) w := by
  unfold rowTy at hr
  split at hr
  · exact run_loadAt_mid w b i t cs _ hc (by assumption) hr (by rw [hn, hl])
  · cases hr
theorem run_loadAt_cell (t : TypeId) [ht : TyOne P t] (b i : Nat) (v : Value) (hc : w.cell? ⟨b, i, none⟩ = some v) :
    (Instr.loadAt t (.pointer (some ⟨b, i, none⟩))).run P w = .ok v w := by
  obtain ⟨d, hd⟩ := Option.isSome_iff_exists.1 ht.known
  have hr := ht.one
  have hagg : (isAgg t).run P w = .ok false w := by
    unfold isAgg
    rw [Sem.run_bind, run_underlying hd w]
    unfold rowTy at hr
    rw [hd] at hr
    cases d <;> simp_all [TypeDesc.isRow]
  simp [Instr.loadAt, Instr.sureAddr, loadVar, hagg, load, Sem.run, hc]

theorem exec_load (t : TypeId) (x : Operand) (ho : o.op = .load t x) {v u : Value} (hx : a.eval x = u) (h : (Instr.loadAt t u).run P w = .ok v w) : (execOp a.eval o).run P w = .ok (.value v) w := by
  unfold execOp
  simp only [ho, hx, Sem.run_bind, h, Result.andThen_ok]
  rfl

theorem Sat.boxCells (hS : Sat w0 H w) {k g : Nat} {bt : TypeId} {vs : List Value} (hk : H[k]? = some (Hp.box g bt vs)) (i n : Nat) : Cells w g i ((vs.drop i).take n) := by
  intro j u hu
  rw [hS.cell hk]
  rw [List.getElem?_take] at hu
  split at hu
  · simpa using hu
  · cases hu

theorem wpl_load1 (hg : o.guard = none) (t : TypeId) (x : Operand) (ho : o.op = .load t x) (hS : Sat w0 H w) (k g i : Nat) (hx : a.eval x = .pointer (some ⟨g, i, none⟩))
    (bt : TypeId) (vs : List Value) (hk : H[k]? = some (Hp.box g bt vs)) [TyOne P t] (v : Value) (hv : vs[i]? = some v)
    (h : wpList P ops Q rest (a.put o.dst v) w) : wpList P ops Q (o :: rest) a w :=
  wpl_val hg (exec_load t x ho hx (run_loadAt_cell t g i v (by rw [hS.cell hk, hv]))) h

theorem wpl_loadN (hg : o.guard = none) (t : TypeId) (x : Operand) (ho : o.op = .load t x) (hS : Sat w0 H w) (k g i : Nat) {n : Nat} (hx : a.eval x = .pointer (some ⟨g, i, none⟩))
    (bt : TypeId) (vs : List Value) (hk : H[k]? = some (Hp.box g bt vs)) [hr : TyRow P t n] (cs : List Value) (hcs : (vs.drop i).take n = cs) (hl : cs.length = n)
    (h : wpList P ops Q rest (a.put o.dst (.agg cs.toArray)) w) : wpList P ops Q (o :: rest) a w :=
  wpl_val hg (exec_load t x ho hx (run_loadAt_cells t g i n cs hr.row hr.size (hcs ▸ hS.boxCells hk i n) hl)) h

/-- From memory of which the cells are known. -/
theorem wpl_loadC1 (hg : o.guard = none) (t : TypeId) (x : Operand) (ho : o.op = .load t x) (g i : Nat) (hx : a.eval x = .pointer (some ⟨g, i, none⟩))
    [TyOne P t] (v : Value) (hv : w.cell? ⟨g, i, none⟩ = some v)
    (h : wpList P ops Q rest (a.put o.dst v) w) : wpList P ops Q (o :: rest) a w :=
  wpl_val hg (exec_load t x ho hx (run_loadAt_cell t g i v hv)) h
theorem wpl_loadCN (hg : o.guard = none) (t : TypeId) (x : Operand) (ho : o.op = .load t x) (g i : Nat) {n : Nat} (hx : a.eval x = .pointer (some ⟨g, i, none⟩))
    [hr : TyRow P t n] (cs : List Value) (hc : Cells w g i cs) (hl : cs.length = n)
    (h : wpList P ops Q rest (a.put o.dst (.agg cs.toArray)) w) : wpList P ops Q (o :: rest) a w :=
  wpl_val hg (exec_load t x ho hx (run_loadAt_cells t g i n cs hr.row hr.size hc hl)) h

/-! ### Stores -/
/-- The cells from i on replaced. -/
def setFrom (vs : List Value) (i : Nat) : List Value → List Value
  | [] => vs
  | c :: cs => setFrom (vs.set i c) (i + 1) cs

theorem Sat.stores : ∀ (cs : List Value) {H : List Hp} {w : World} (_ : Sat w0 H w) {k g : Nat} {bt : TypeId} {vs : List Value} (_ : H[k]? = some (Hp.box g bt vs)) (i : Nat),
    Sat w0 (H.set k (Hp.box g bt (setFrom vs i cs))) (w.setCells g i cs)
  | [], H, w, hS, k, g, bt, vs, hk, i => by
    rw [show H.set k (Hp.box g bt (setFrom vs i [])) = H from by
      obtain ⟨hlt, he⟩ := List.getElem?_eq_some_iff.1 hk
      rw [show setFrom vs i [] = vs from rfl, ← he, List.set_getElem_self]]
    exact hS
  | c :: cs, H, w, hS, k, g, bt, vs, hk, i => by
    have h1 := hS.store hk i c
    obtain ⟨hlt, _⟩ := List.getElem?_eq_some_iff.1 hk
    have h2 := Sat.stores cs h1 (k := k) (g := g) (bt := bt) (vs := vs.set i c) (by rw [List.getElem?_set_self hlt]) (i + 1)
    rw [List.set_set] at h2
    exact h2

theorem exec_store (t : TypeId) (x y : Operand) (ho : o.op = .store t x y) {u v : Value} {w' : World} (hx : a.eval x = u) (hy : a.eval y = v) (h : (Instr.storeAt t u v).run P w = .ok () w') : (execOp a.eval o).run P w = .ok .skip w' := by
  unfold execOp
  simp only [ho, hx, hy, Sem.run_bind, h, Result.andThen_ok]
  rfl

theorem run_storeAt_one (t : TypeId) [ht : TyOne P t] (b i : Nat) (v old : Value) (h1 : v.oneCell' = true) (hc : w.cell? ⟨b, i, none⟩ = some old) (hf : w.frozen? ⟨b, i, none⟩ = false) :
    (Instr.storeAt t (.pointer (some ⟨b, i, none⟩)) v).run P w = .ok () (w.setCell ⟨b, i, none⟩ v) := by
  obtain ⟨j, hj, hj1⟩ := Option.map_eq_some_iff.1 ht.size
  have hvc : v.cells = #[v] := by cases v <;> first | rfl | (simp [Value.oneCell'] at h1)
  have hadd : (⟨b, i, none⟩ : Addr).add 0 = ⟨b, i, none⟩ := by simp [Addr.add]
  simp [Instr.storeAt, Instr.sureAddr, storeVar, sizeOf, typeInfo, hj, hj1, hvc, storeCells, hadd, run_store P w _ v .plain h1, hc, hf]

theorem wpl_store1 (hg : o.guard = none) (t : TypeId) (x y : Operand) (ho : o.op = .store t x y) (hS : Sat w0 H w) (k g i : Nat) (hx : a.eval x = .pointer (some ⟨g, i, none⟩)) [TyOne P t] (v : Value) (hy : a.eval y = v)
    (bt : TypeId) (vs : List Value) (hk : H[k]? = some (Hp.box g bt vs)) (h1 : v.oneCell' = true) (hi : vs[i]?.isSome = true)
    {H' : List Hp} (hH : H.set k (Hp.box g bt (vs.set i v)) = H')
    (h : ∀ w', Sat w0 H' w' → wpList P ops Q rest (a.put o.dst undef) w') : wpList P ops Q (o :: rest) a w := by
  obtain ⟨old, hold⟩ := Option.isSome_iff_exists.1 hi
  exact wpl_skip hg (exec_store t x y ho hx hy (run_storeAt_one t g i v old h1 (by rw [hS.cell hk, hold]) (hS.frozen hk i))) (h _ (hH ▸ hS.store hk i v))

theorem wpl_storeN (hg : o.guard = none) (t : TypeId) (x y : Operand) (ho : o.op = .store t x y) (hS : Sat w0 H w) (k g i : Nat) {n : Nat} (hx : a.eval x = .pointer (some ⟨g, i, none⟩)) [hr : TyRow P t n] (cs : List Value) (hy : a.eval y = .agg cs.toArray)
    (bt : TypeId) (vs : List Value) (hk : H[k]? = some (Hp.box g bt vs)) (hl : cs.length = n) (h1 : cs.all (·.oneCell') = true) (hi : decide (i + cs.length ≤ vs.length) = true)
    {H' : List Hp} (hH : H.set k (Hp.box g bt (setFrom vs i cs)) = H')
    (h : ∀ w', Sat w0 H' w' → wpList P ops Q rest (a.put o.dst undef) w') : wpList P ops Q (o :: rest) a w := by
  have hi' := of_decide_eq_true hi
  refine wpl_skip hg (exec_store t x y ho hx hy (run_storeAt_mid w g i t cs.toArray (fun j hj => ⟨?_, hS.frozen hk _⟩) (by rw [hr.size]; simp [hl]) (by simpa using h1))) (h _ ?_)
  · rw [hS.cell hk, List.getElem?_eq_getElem (by simp at hj; omega)]
    rfl
  · subst hH
    simpa using hS.stores cs hk i

/-! ### Results that lie in a block -/
theorem run_result_cell (fn : Func) (tmps : Array Value) {c : Tmp} {t : TypeId} {n : Nat} (hf : fn.results = #[.cell c t]) [hr : TyRow P t n] (hS : Sat w0 H w) (k g : Nat) (hx : tmps.getD c undef = .pointer (some ⟨g, 0, none⟩))
    (bt : TypeId) (vs : List Value) (hk : H[k]? = some (Hp.box g bt vs)) (hl : vs.length = n) : (results fn tmps).run P w = .ok (.agg vs.toArray) w := by
  have h1 := run_loadAt_cells (P := P) (w := w) t g 0 n vs hr.row hr.size (by have := hS.boxCells hk 0 n; rwa [List.drop_zero, List.take_of_length_le (by omega)] at this) hl
  have h2 : (loadVar t ⟨g, 0, none⟩).run P w = .ok (.agg vs.toArray) w := by simpa [Instr.loadAt, Instr.sureAddr] using h1
  simp only [Array.getD_eq_getD_getElem?] at hx
  simp [results, hf, hx, asAddr, h2]
theorem run_result_cell_tmp (fn : Func) (tmps : Array Value) {c u : Tmp} {t : TypeId} {n : Nat} (hf : fn.results = #[.cell c t, .tmp u]) [hr : TyRow P t n] (hS : Sat w0 H w) (k g : Nat) (hx : tmps.getD c undef = .pointer (some ⟨g, 0, none⟩))
    (bt : TypeId) (vs : List Value) (hk : H[k]? = some (Hp.box g bt vs)) (hl : vs.length = n) : (results fn tmps).run P w = .ok (.tuple #[.agg vs.toArray, tmps.getD u undef]) w := by
  have h1 := run_loadAt_cells (P := P) (w := w) t g 0 n vs hr.row hr.size (by have := hS.boxCells hk 0 n; rwa [List.drop_zero, List.take_of_length_le (by omega)] at this) hl
  have h2 : (loadVar t ⟨g, 0, none⟩).run P w = .ok (.agg vs.toArray) w := by simpa [Instr.loadAt, Instr.sureAddr] using h1
  simp only [Array.getD_eq_getD_getElem?] at hx
  simp [results, hf, hx, asAddr, h2]

end
end Go.Proofs.Ytjkpoffhnccanaa
