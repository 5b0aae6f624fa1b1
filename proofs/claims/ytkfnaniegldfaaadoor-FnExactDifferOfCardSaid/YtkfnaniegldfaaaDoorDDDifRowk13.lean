/-
  Comparing structs of integers. No statement of the program is proved here.
  Conditions: none.
  Comparing replays: what SameReplay and what it calls return, in the program and in the reference.
  Conditions: none.
  DifferOf, in the program and in the reference.
  Conditions: lists of at most 2^20 elements.
  DifferOf in the reference.
  Conditions: lists of at most 2^20 elements.
  Marks of worlds and spectators. No statement of the program is proved here.
  Conditions: lists of at most 2^20 elements.
  The law FnExactDifferOf returns true.
  Conditions: none.
  The kit's readings of the laws' structs as Lean data. No statement of the program is proved here.
  Conditions: none.
  The kit's readings of the laws' bodies and worlds as Lean data. No statement of the program is proved here.
  Conditions: none.
-/
import Derived.ChangeKeysEq
import Derived.Test.YtkfnaniegldfaaaDoorDDDifRowk9
import Derived.Test.YtkfnaniegldfaaaDoorDDDifRowk10
import Derived.Test.YtkfnaniegldfaaaDoorDDDifRowk12
section
set_option linter.unusedSimpArgs false
set_option linter.unusedVariables false
namespace Go.Proofs.YtkfnaniegldfaaaDoor
open Go.RowKit

/-- t is a struct of n fields of type int. -/
class TyInts (P : Program) (t : TypeId) (n : outParam Nat) : Prop where
  u : P.underlying t = some (.struct (P.fieldsOf t))
  held : P.stoodInHeld t = false
  guard : P.eqGuardType P.depth t = false
  fs : ((P.fieldsOf t).toList.map fun f => (f.name == "_", f.offset, (match P.underlying f.type with | some (.int .i64) => true | _ => false), P.cellsOf f.type)) = (List.range n).map fun i => (false, i, true, 1)
theorem eqInts {P : Program} {w : World} (d : Nat) (xs ys : List Int) (hl : xs.length = ys.length) : ∀ (fs : List Field) (o : Nat), (fs.map fun f => (f.name == "_", f.offset, (match P.underlying f.type with | some (.int .i64) => true | _ => false), P.cellsOf f.type)) = ((List.range xs.length).drop o).map (fun i => (false, i, true, 1)) →
    (Op.eqFields (d + 1) (xs.map (Value.int .i64)).toArray (ys.map (Value.int .i64)).toArray fs).run P w = .ok (decide (xs.drop o = ys.drop o)) w
  | [], o, h => by
    have h1 : ((List.range xs.length).drop o) = [] := by simpa using h.symm
    have h2 : xs.length ≤ o := by simpa using h1
    rw [List.drop_eq_nil_of_le h2, List.drop_eq_nil_of_le (by omega)]
    simp [Op.eqFields]
  | f :: fs, o, h => by
    by_cases ho : o < xs.length
    · rw [List.drop_eq_getElem_cons (by simpa using ho)] at h
      simp only [List.map_cons, List.cons.injEq, List.getElem_range, Prod.mk.injEq] at h
      obtain ⟨⟨h1, h2, h3, h4⟩, h5⟩ := h
      have hu : P.underlying f.type = some (.int .i64) := by
        split at h3
        · assumption
        · cases h3
      have ih := eqInts (w := w) d xs ys hl fs (o + 1) h5
      have hn : f.name ≠ "_" := by simpa using h1
      have hk : P.plainKey f.type = true := by simp [Program.plainKey, hu]
      have p1 : (Go.part f.type (xs.map (Value.int .i64)).toArray f.offset).run P w = .ok (.int .i64 xs[o]) w := run_part_plain w hk (by rw [h2]; simp [ho])
      have p2 : (Go.part f.type (ys.map (Value.int .i64)).toArray f.offset).run P w = .ok (.int .i64 (ys[o]'(by omega))) w := run_part_plain w hk (by rw [h2]; simp [show o < ys.length by omega])
      simp only [Op.eqFields, if_pos hn, Sem.run_bind, p1, p2, Result.andThen_ok, run_equalIn_int w d f.type .i64 .i64 _ _ hu]
      have dx : xs.drop o = xs[o] :: xs.drop (o + 1) := List.drop_eq_getElem_cons ho
      have dy : ys.drop o = ys[o]'(by omega) :: ys.drop (o + 1) := List.drop_eq_getElem_cons (by omega)
      have hd : decide (xs.drop o = ys.drop o) = (decide (xs[o] = ys[o]'(by omega)) && decide (xs.drop (o + 1) = ys.drop (o + 1))) := by
        rw [dx, dy, ← Bool.decide_and]
        exact decide_eq_decide.2 (by rw [List.cons.injEq])
      rw [hd]
      by_cases e : xs[o] = ys[o]'(by omega)
      · rw [decide_eq_true e, Bool.true_and]
        simp [e, ih]
      · rw [decide_eq_false e, Bool.false_and]
        have e2 : (xs[o] == ys[o]'(by omega)) = false := by simp [e]
        simp [e2]
    · rw [List.drop_eq_nil_of_le (by simp; omega)] at h
      simp at h
theorem ag_ints {w : World} {H : Hs} {F : Nat → Prop} {ps : List Nat} {cs : List V1} {xs : List Int} {v : Value} (hc : cs = xs.map fun n => V1.rd ps (.v (.int .i64 n))) (h : R2 w H F (.ag cs) v) : v = .agg (xs.map (Value.int .i64)).toArray := by
  obtain ⟨us, rfl, hl, hu⟩ := h
  subst hc
  rw [List.length_map] at hl
  congr 2
  apply List.ext_getElem
  · simp [hl]
  · intro i h1 h2
    have h3 := hu i (V1.rd ps (.v (.int .i64 (xs[i]'(by omega))))) us[i] (by simp [show i < xs.length by omega]) (by simp [h1])
    have h4 : RO w (inP H F ps) (.v (.int .i64 (xs[i]'(by omega)))) us[i] := h3
    rw [(RO.plain h4).1]
    simp
section
variable {P : Program} {ops : Array Oper} {o : Oper} {st : St} {m n : Nat} {t t' : TypeId} {y z : Operand} {ps qs : List Nat} {cs ds : List V1} {xs ys : List Int} {b : Bool}
theorem q_aneq [hi : TyInts P t n] (ho : o.op = .binOp .neq t y z t') (hg : o.guard = none) (hy : st.ev y = .o (.ag cs)) (hz : st.ev z = .o (.ag ds)) (hc : cs = xs.map fun n => V1.rd ps (.v (.int .i64 n))) (hd : ds = ys.map fun n => V1.rd qs (.v (.int .i64 n))) (h1 : xs.length = n) (h2 : ys.length = n) (hb : decide (xs ≠ ys) = b) : Qt P ops o st (B b) [] m :=
  .pure hg fun a w H F hr => ⟨.bool b, by
    have e1 := ag_ints (w := w) (H := H) (F := F) hc (by have := hr.ev y; rw [hy] at this; exact this)
    have e2 := ag_ints (w := w) (H := H) (F := F) hd (by have := hr.ev z; rw [hz] at this; exact this)
    have hq := eqInts (P := P) (w := w) 9998 xs ys (by omega) (P.fieldsOf t).toList 0 (by rw [hi.fs, h1]; rfl)
    have hf := run_equalIn_struct (P := P) w 9999 t (xs.map (Value.int .i64)).toArray (ys.map (Value.int .i64)).toArray hi.u hi.held
    rw [hq] at hf
    have hb2 : (!decide (xs = ys)) = b := by rw [← hb]; simp
    simp only [execOp, ho, e1, e2, Sem.run_bind, run_eqGuard_agg w .neq t y z _ _ hi.guard, Result.andThen_ok, run_neq_struct, hf, List.drop_zero, hb2]
    rfl, plainV _ rfl⟩
end
instance : TyInts Tryd.prog 82 9 := ⟨by kernel_rfl, by kernel_rfl, by kernel_rfl, by kernel_rfl⟩
end Go.Proofs.YtkfnaniegldfaaaDoor
end

section
set_option linter.unusedSimpArgs false
set_option linter.unusedVariables false
namespace Go.Proofs.YtkfnaniegldfaaaDoor
open Go.RowKit

set_option maxHeartbeats 2000000 in
theorem S_ints (xs ys : List Int) (hn : Enc.gd xs) : Con Tryd.prog 58 [] [al xs, al ys] [] (B (decide (xs = ys))) := by
  have hn1 := hn.1
  have hlx := els_len xs
  have hly := els_len ys
  by_cases hl : xs.length = ys.length
  · have hb : decide (((els xs).length : Int) ≠ ((els ys).length : Int)) = false := by rw [hlx, hly, hl]; simp
    refine Con.of Tryd.func58 rfl Tryd.ntmps58 rfl (fun E => ?_)
    refine A_seq ?_; refine A_region ?_; refine M0 (q_assignC rfl rfl rfl) rfl rfl ?_; refine L_nil ?_; refine T_n ?_; refine A_seq ?_; refine A_seq ?_; refine A_region ?_
    refine M0 (q_moveC rfl rfl rfl) rfl rfl ?_; refine M0 (q_len rfl rfl rfl) rfl rfl ?_; refine M0 (q_moveC rfl rfl rfl) rfl rfl ?_; refine M0 (q_len rfl rfl rfl) rfl rfl ?_
    refine M0 (q_neqK rfl rfl rfl rfl (by assumption)) rfl rfl ?_; refine L_nil ?_; refine T_n ?_; refine A_ifF rfl ?_; refine A_skip ?_; refine T_n ?_; refine A_seq ?_; refine A_seq ?_
    refine A_region ?_; refine M0 (q_assignC rfl rfl rfl) rfl rfl ?_; refine L_nil ?_; refine T_n ?_; refine A_block ?_
    refine A_loop (fun m st => ∃ k : Nat, k + m = xs.length ∧ (xs.take k = ys.take k) ∧ st = (fun k : Nat => (⟨_, [(0, L xs), (1, L ys), (5, I k)], []⟩ : St)) k) (xs.length) ⟨(fun k : Nat => (⟨_, [(0, L xs), (1, L ys), (5, I k)], []⟩ : St)) 0, W_go [] (by decide) rfl (rfl) (.cons rfl (.cons rfl (.cons rfl (.nil)))), 0, by omega, by simp, rfl⟩ ?_
    rintro m_A _ ⟨k, hk_A, hp_A, rfl⟩
    refine A_seq ?_; refine A_seq ?_; refine A_region ?_; refine M0 (q_moveC rfl rfl rfl) rfl rfl ?_; refine M0 (q_moveC rfl rfl rfl) rfl rfl ?_; refine M0 (q_len rfl rfl rfl) rfl rfl ?_
    refine M0 (q_lss rfl rfl rfl rfl) rfl rfl ?_; refine L_nil ?_; refine T_n ?_
    refine A_cond rfl (fun h => ?_) (fun h => ?_)
    · have h3 : k < xs.length := by have := of_decide_eq_true h; omega
      have h4 : k < ys.length := by omega
      have hat := els_at h3
      have hat2 := els_at h4
      by_cases he : xs[k] = ys[k]
      · have hk : decide (xs[k] ≠ ys[k]) = false := by simp [he]
        refine A_skip ?_; refine T_n ?_; refine A_seq ?_; refine A_block ?_; refine A_seq ?_
        refine A_draw [[], [], [0, 1], [0, 1, 2], [], [], [4, 5], [4, 5, 6], [0, 1, 2, 3, 4, 5, 6, 7]] [[], [], [17, 18], [17, 18, 19], [], [], [21, 22], [21, 22, 23], [17, 18, 19, 20, 21, 22, 23, 24]] [[18, 21, 22, 23, 24], [17, 21, 22, 23, 24], [21, 22, 23, 24], [21, 22, 23, 24], [17, 18, 19, 20, 22], [17, 18, 19, 20, 21], [17, 18, 19, 20], [17, 18, 19, 20], []] rfl ?_
        refine DR.step (q_moveC rfl rfl rfl) rfl rfl ?_; refine DR.step (q_moveC rfl rfl rfl) rfl rfl ?_; refine DR.step (q_at rfl rfl rfl rfl (by omega) (by assumption) rfl) rfl rfl ?_
        refine DR.step (q_lr1 rfl rfl rfl rfl) rfl rfl ?_; refine DR.step (q_moveC rfl rfl rfl) rfl rfl ?_; refine DR.step (q_moveC rfl rfl rfl) rfl rfl ?_
        refine DR.step (q_at rfl rfl rfl rfl (by omega) (by assumption) rfl) rfl rfl ?_; refine DR.step (q_lr1 rfl rfl rfl rfl) rfl rfl ?_
        refine DR.step (q_neqK rfl rfl rfl rfl (by assumption)) rfl rfl ?_; refine DR.stop (by kernel_rfl) (by kernel_rfl) ?_
        refine L_nil ?_; refine T_n ?_; refine A_ifF rfl ?_; refine A_skip ?_; refine B_n ?_; refine T_n ?_; refine A_region ?_; refine M0 (q_moveC rfl rfl rfl) rfl rfl ?_
        refine M0 (q_add rfl rfl rfl rfl (by omega)) rfl rfl ?_; refine M0 (q_assignC rfl rfl rfl) rfl rfl ?_; refine L_nil ?_; refine T_n ?_
        exact ⟨xs.length - (k + 1), by omega, (fun k : Nat => (⟨_, [(0, L xs), (1, L ys), (5, I k)], []⟩ : St)) (k + 1), W_go [] (by decide) rfl (rfl) (.cons rfl (.cons rfl (.cons rfl (.nil)))), k + 1, by omega, eq_next h3 h4 hp_A he, rfl⟩
      · have hk : decide (xs[k] ≠ ys[k]) = true := by simp [he]
        refine A_skip ?_; refine T_n ?_; refine A_seq ?_; refine A_block ?_; refine A_seq ?_
        refine A_draw [[], [], [0, 1], [0, 1, 2], [], [], [4, 5], [4, 5, 6], [0, 1, 2, 3, 4, 5, 6, 7]] [[], [], [17, 18], [17, 18, 19], [], [], [21, 22], [21, 22, 23], [17, 18, 19, 20, 21, 22, 23, 24]] [[18, 21, 22, 23, 24], [17, 21, 22, 23, 24], [21, 22, 23, 24], [21, 22, 23, 24], [17, 18, 19, 20, 22], [17, 18, 19, 20, 21], [17, 18, 19, 20], [17, 18, 19, 20], []] rfl ?_
        refine DR.step (q_moveC rfl rfl rfl) rfl rfl ?_; refine DR.step (q_moveC rfl rfl rfl) rfl rfl ?_; refine DR.step (q_at rfl rfl rfl rfl (by omega) (by assumption) rfl) rfl rfl ?_
        refine DR.step (q_lr1 rfl rfl rfl rfl) rfl rfl ?_; refine DR.step (q_moveC rfl rfl rfl) rfl rfl ?_; refine DR.step (q_moveC rfl rfl rfl) rfl rfl ?_
        refine DR.step (q_at rfl rfl rfl rfl (by omega) (by assumption) rfl) rfl rfl ?_; refine DR.step (q_lr1 rfl rfl rfl rfl) rfl rfl ?_
        refine DR.step (q_neqK rfl rfl rfl rfl (by assumption)) rfl rfl ?_; refine DR.stop (by kernel_rfl) (by kernel_rfl) ?_
        refine L_nil ?_; refine T_n ?_; refine A_ifT rfl ?_; refine A_seq ?_; refine A_region ?_; refine M0 (q_assignC rfl rfl rfl) rfl rfl ?_; refine L_nil ?_; refine T_n ?_; refine A_ret ?_; refine B_r ?_
        refine T_r ?_; refine T_r ?_; refine B_r ?_; refine T_r ?_; refine F_r ?_
        exact E_tmp rfl rfl (W_end [] (by decide) rfl rfl (B_eq (eq_ne h3 h4 he).symm))
    · have h3 : ¬ ((k : Int) < (els xs).length) := of_decide_eq_false h
      refine A_exit ?_; refine T_x ?_; refine T_x ?_; refine B_xs ?_; refine T_n ?_; refine A_seq ?_; refine A_region ?_; refine M0 (q_assignC rfl rfl rfl) rfl rfl ?_; refine L_nil ?_; refine T_n ?_
      refine A_ret ?_; refine F_r ?_
      exact E_tmp rfl rfl (W_end [] (by decide) rfl rfl (B_eq (eq_all (by omega) hl hp_A).symm))
  · have hb : decide (((els xs).length : Int) ≠ ((els ys).length : Int)) = true := by rw [hlx, hly]; simp; omega
    refine Con.of Tryd.func58 rfl Tryd.ntmps58 rfl (fun E => ?_)
    refine A_seq ?_; refine A_region ?_; refine M0 (q_assignC rfl rfl rfl) rfl rfl ?_; refine L_nil ?_; refine T_n ?_; refine A_seq ?_; refine A_seq ?_; refine A_region ?_
    refine M0 (q_moveC rfl rfl rfl) rfl rfl ?_; refine M0 (q_len rfl rfl rfl) rfl rfl ?_; refine M0 (q_moveC rfl rfl rfl) rfl rfl ?_; refine M0 (q_len rfl rfl rfl) rfl rfl ?_
    refine M0 (q_neqK rfl rfl rfl rfl (by assumption)) rfl rfl ?_; refine L_nil ?_; refine T_n ?_; refine A_ifT rfl ?_; refine A_seq ?_; refine A_region ?_
    refine M0 (q_assignC rfl rfl rfl) rfl rfl ?_; refine L_nil ?_; refine T_n ?_; refine A_ret ?_; refine T_r ?_; refine F_r ?_
    exact E_tmp rfl rfl (W_end [] (by decide) rfl rfl (B_eq (eq_len hl).symm))
end Go.Proofs.YtkfnaniegldfaaaDoor
end

section
set_option linter.unusedSimpArgs false
set_option linter.unusedVariables false
set_option maxRecDepth 8000
namespace Go.Proofs.YtkfnaniegldfaaaDoor
open Go.RowKit

theorem row3p {k : Nat} {o o2 : Ob} {a b : List (List T)} (h : a = b) : [o, o2, Ob.row k a] = [o, o2, Ob.row k b] := by rw [h]
theorem els_snoc {l l' : List ByteArray} {x : ByteArray} (h : l' = l ++ [x]) : els l' = els l ++ [Enc.e x] := by rw [h]; simp [els]
theorem differ_no {a b : TWorld} (h : ¬ (worldOk a = true ∧ worldOk b = true)) : differ a b = [] := if_neg h
theorem differ_ok {a b : TWorld} (h : worldOk a = true) (h2 : worldOk b = true) : differ a b = dD a b (b.Bodies.length - a.Bodies.length) := if_pos ⟨h, h2⟩
theorem sc_T {a b : TWorld} {k : Nat} (h : b.Scores.length ≤ k) : scDiff a b k = true := by rw [scDiff, decide_eq_true h]; rfl
theorem sc_is {a b : TWorld} {k : Nat} (h1 : k < a.Scores.length) (h2 : k < b.Scores.length) : scDiff a b k = decide (a.Scores[k] ≠ b.Scores[k]) := by
  rw [scDiff, decide_eq_false (by omega), Bool.false_or]
  simp [List.getD_eq_getElem?_getD, h1, h2]
theorem bo_T {a b : TWorld} {k : Nat} (h : b.Bodies.length ≤ k) : boDiff a b k = true := by rw [boDiff, decide_eq_true h]; rfl
theorem bo_is {a b : TWorld} {k : Nat} (h1 : k < a.Bodies.length) (h2 : k < b.Bodies.length) : boDiff a b k = decide (bodyInts a.Bodies[k] ≠ bodyInts b.Bodies[k]) := by
  rw [boDiff, decide_eq_false (by omega), Bool.false_or]
  simp [List.getD_eq_getElem?_getD, h1, h2]
theorem dS_len (a b : TWorld) (n : Nat) : (dS a b n).length ≤ 1 + n := by
  have h1 : (dSeed a b).length ≤ 1 := by unfold dSeed; split <;> simp
  have h2 := List.length_filter_le (scDiff a b) (List.range n)
  simp only [dS, List.length_append, List.length_map]
  simp only [List.length_range] at h2
  omega
theorem dB_len (a b : TWorld) (n : Nat) : (dB a b n).length ≤ 1 + a.Scores.length + n := by
  have h1 := dS_len a b a.Scores.length
  have h2 := List.length_filter_le (boDiff a b) (List.range n)
  simp only [dB, List.length_append, List.length_map]
  simp only [List.length_range] at h2
  omega
theorem dC_len (a b : TWorld) (n : Nat) : (dC a b n).length ≤ 1 + a.Scores.length + a.Bodies.length + n := by
  have h1 := dB_len a b a.Bodies.length
  simp only [dC, List.length_append, List.length_map, List.length_range']
  omega
theorem dD_len (a b : TWorld) (n : Nat) : (dD a b n).length ≤ 1 + a.Scores.length + a.Bodies.length + b.Scores.length + n := by
  have h1 := dC_len a b (b.Scores.length - a.Scores.length)
  simp only [dD, List.length_append, List.length_map, List.length_range']
  omega
set_option maxHeartbeats 8000000 in
theorem I_DifferOf (a b : TWorld) (ga : Enc.gd a) (gb : Enc.gd b) : Con Tryd.prog 25 [] [ag a, ag b] [.row 1 (els (differ a b))] (.o (.c (.ref 0))) := by
  have hca := I_WorldOk a ga
  have hcb := I_WorldOk b gb
  cases hoa : worldOk a with
  | false =>
    rw [hoa] at hca
    rw [differ_no (by simp [hoa])]
    refine Con.of Tryd.func25 rfl Tryd.ntmps25 rfl (fun E => ?_)
    refine A_seq ?_; refine A_region ?_; refine M1 (q_boxN rfl rfl rfl rfl) rfl rfl ?_; refine M1 (q_boxN rfl rfl rfl rfl) rfl rfl ?_; refine M0 (q_assignC rfl rfl rfl) rfl rfl ?_
    refine L_nil ?_; refine T_n ?_; refine A_seq ?_; refine A_seq ?_; refine A_region ?_; refine M0 (q_ldN rfl rfl rfl rfl rfl rfl) rfl rfl ?_; refine M0 (q_call0 rfl rfl (hca) rfl) rfl rfl ?_
    refine M0 (q_not rfl rfl rfl) rfl rfl ?_; refine M0 (q_moveC rfl rfl rfl) rfl rfl ?_; refine M_no rfl rfl rfl rfl rfl rfl ?_; refine M_no rfl rfl rfl rfl rfl rfl ?_
    refine M_no rfl rfl rfl rfl rfl rfl ?_; refine M0 (q_pickT rfl rfl rfl rfl) rfl rfl ?_; refine L_nil ?_; refine T_n ?_; refine A_ifT rfl ?_; refine A_seq ?_; refine A_region ?_
    refine M0 (q_assignC rfl rfl rfl) rfl rfl ?_; refine L_nil ?_; refine T_n ?_; refine A_ret ?_; refine T_r ?_; refine F_r ?_
    exact E_tmp rfl rfl (W_fill [1] [2] rfl rfl (by decide) rfl rfl rfl)
  | true =>
  rw [hoa] at hca
  cases hob : worldOk b with
  | false =>
    rw [hob] at hcb
    rw [differ_no (by simp [hob])]
    refine Con.of Tryd.func25 rfl Tryd.ntmps25 rfl (fun E => ?_)
    refine A_seq ?_; refine A_region ?_; refine M1 (q_boxN rfl rfl rfl rfl) rfl rfl ?_; refine M1 (q_boxN rfl rfl rfl rfl) rfl rfl ?_; refine M0 (q_assignC rfl rfl rfl) rfl rfl ?_
    refine L_nil ?_; refine T_n ?_; refine A_seq ?_; refine A_seq ?_; refine A_region ?_; refine M0 (q_ldN rfl rfl rfl rfl rfl rfl) rfl rfl ?_; refine M0 (q_call0 rfl rfl (hca) rfl) rfl rfl ?_
    refine M0 (q_not rfl rfl rfl) rfl rfl ?_; refine M0 (q_moveC rfl rfl rfl) rfl rfl ?_; refine M_yes rfl rfl rfl ?_; refine M0 (q_ldN rfl rfl rfl rfl rfl rfl) rfl rfl ?_
    refine M_yes rfl rfl rfl ?_; refine M0 (q_call0 rfl rfl (hcb) rfl) rfl rfl ?_; refine M_yes rfl rfl rfl ?_; refine M0 (q_not rfl rfl rfl) rfl rfl ?_
    refine M0 (q_pickF rfl rfl rfl rfl) rfl rfl ?_; refine L_nil ?_; refine T_n ?_; refine A_ifT rfl ?_; refine A_seq ?_; refine A_region ?_; refine M0 (q_assignC rfl rfl rfl) rfl rfl ?_
    refine L_nil ?_; refine T_n ?_; refine A_ret ?_; refine T_r ?_; refine F_r ?_
    exact E_tmp rfl rfl (W_fill [1] [2] rfl rfl (by decide) rfl rfl rfl)
  | true =>
  rw [hob] at hcb
  rw [differ_ok hoa hob]
  obtain ⟨_, _, _, hn, _, hm, _⟩ := worldOk_spec hoa
  obtain ⟨_, _, _, hn2, _, hm2, _⟩ := worldOk_spec hob
  have hlsa := els_len a.Scores
  have hlba := els_len a.Bodies
  have hlsb := els_len b.Scores
  have hlbb := els_len b.Bodies
  refine Con.of Tryd.func25 rfl Tryd.ntmps25 rfl (fun E => ?_)
  refine A_seq ?_; refine A_region ?_; refine M1 (q_boxN rfl rfl rfl rfl) rfl rfl ?_; refine M1 (q_boxN rfl rfl rfl rfl) rfl rfl ?_; refine M0 (q_assignC rfl rfl rfl) rfl rfl ?_
  refine L_nil ?_; refine T_n ?_; refine A_seq ?_; refine A_seq ?_; refine A_region ?_; refine M0 (q_ldN rfl rfl rfl rfl rfl rfl) rfl rfl ?_; refine M0 (q_call0 rfl rfl (hca) rfl) rfl rfl ?_
  refine M0 (q_not rfl rfl rfl) rfl rfl ?_; refine M0 (q_moveC rfl rfl rfl) rfl rfl ?_; refine M_yes rfl rfl rfl ?_; refine M0 (q_ldN rfl rfl rfl rfl rfl rfl) rfl rfl ?_
  refine M_yes rfl rfl rfl ?_; refine M0 (q_call0 rfl rfl (hcb) rfl) rfl rfl ?_; refine M_yes rfl rfl rfl ?_; refine M0 (q_not rfl rfl rfl) rfl rfl ?_
  refine M0 (q_pickF rfl rfl rfl rfl) rfl rfl ?_; refine L_nil ?_; refine T_n ?_; refine A_ifF rfl ?_; refine A_skip ?_; refine T_n ?_; refine A_seq ?_; refine A_region ?_
  refine M0 (q_assignC rfl rfl rfl) rfl rfl ?_; refine L_nil ?_; refine T_n ?_; refine A_seq ?_; refine A_seq ?_; refine A_region ?_; refine M0 (q_fldp rfl rfl rfl rfl (by decide)) rfl rfl ?_
  refine M0 (q_ld1 rfl rfl rfl rfl rfl) rfl rfl ?_; refine M0 (q_fldp rfl rfl rfl rfl (by decide)) rfl rfl ?_; refine M0 (q_ld1 rfl rfl rfl rfl rfl) rfl rfl ?_
  refine M0 (q_neq rfl rfl rfl rfl) rfl rfl ?_; refine L_nil ?_; refine T_n ?_
  refine AWP.pre ?_ (W_nil 5 1 rfl)
  refine A_cond rfl (fun h => ?_) (fun h => ?_)
  · have hse := of_decide_eq_true h
    have hds : dSeed a b = _ := if_pos hse
    refine A_region ?_; refine M0 (q_moveC rfl rfl rfl) rfl rfl ?_; refine M1 (q_bslice rfl rfl rfl rfl rfl rfl) rfl rfl ?_
    refine M_appsb rfl rfl rfl rfl rfl rfl rfl rfl rfl rfl (by decide) (by decide) ?_; refine M0 (q_assignC rfl rfl rfl) rfl rfl ?_; refine L_nil ?_; refine T_n ?_; refine A_seq ?_
    refine A_seq ?_; refine A_region ?_; refine M0 (q_fldp rfl rfl rfl rfl (by decide)) rfl rfl ?_; refine M0 (q_ld1 rfl rfl rfl rfl rfl) rfl rfl ?_; refine M0 (q_len rfl rfl rfl) rfl rfl ?_
    refine M0 (q_moveC rfl rfl rfl) rfl rfl ?_; refine L_nil ?_; refine T_n ?_; refine A_block ?_
    refine A_loop (fun m st => ∃ k : Nat, k + m = a.Scores.length ∧ (True) ∧ st = (fun k : Nat => (⟨_, [(2, .o (.c (.ptr 0 0))), (3, .o (.c (.ptr 1 0))), (5, .o (.c (.ref 2))), (28, I (els a.Scores).length), (29, I k)], [.box ((Enc.e a).map (V1.rd [])), .box ((Enc.e b).map (V1.rd [])), .row 1 (els (dS a b k))]⟩ : St)) k) (a.Scores.length) ⟨(fun k : Nat => (⟨_, [(2, .o (.c (.ptr 0 0))), (3, .o (.c (.ptr 1 0))), (5, .o (.c (.ref 2))), (28, I (els a.Scores).length), (29, I k)], [.box ((Enc.e a).map (V1.rd [])), .box ((Enc.e b).map (V1.rd [])), .row 1 (els (dS a b k))]⟩ : St)) 0, W_go [0, 1, 2] (by decide) rfl (row3p (by rw [dS, hds]; rfl)) (.cons rfl (.cons rfl (.cons rfl (.cons rfl (.cons rfl (.nil)))))), 0, by omega, trivial, rfl⟩ ?_
    rintro m_A _ ⟨k, hk_A, hp_A, rfl⟩
    have hdl := dS_len a b k
    have hel := els_len (dS a b k)
    refine A_seq ?_; refine A_region ?_; refine M0 (q_lss rfl rfl rfl rfl) rfl rfl ?_; refine L_nil ?_; refine T_n ?_; refine A_seq ?_
    refine A_cond rfl (fun h => ?_) (fun h => ?_)
    · have h3 : k < a.Scores.length := by have := of_decide_eq_true h; omega
      have hat := els_at h3
      have hf := I_FormatInt k (by omega)
      have hfs := fmtN_size k
      by_cases h4 : b.Scores.length ≤ k
      · have hb4 : decide (((els b.Scores).length : Int) ≤ k) = true := decide_eq_true (by omega)
        refine A_skip ?_; refine T_n ?_; refine A_seq ?_; refine A_block ?_; refine A_seq ?_; refine A_region ?_; refine M0 (q_moveC rfl rfl rfl) rfl rfl ?_; refine M0 (q_assignC rfl rfl rfl) rfl rfl ?_
        refine L_nil ?_; refine T_n ?_; refine A_seq ?_
        refine A_draw [[], [], [1], [1, 2], [0, 1, 2, 3], [0, 1, 2, 3, 4], [0, 1, 2, 3, 4, 5], [0, 1, 2, 3, 4, 5, 6], [0, 1, 2, 3, 4, 5], [0, 1, 2, 3, 4, 5, 6, 7, 8], [0, 1, 2, 3, 4, 5, 6, 7, 8, 9], [0, 1, 2, 3, 4, 5], [0, 1, 2, 3, 4, 5, 11], [0, 1, 2, 3, 4, 5], [0, 1, 2, 3, 4, 5, 11, 12, 13], [0, 1, 2, 3, 4, 5, 11, 12, 13, 14], [0, 1, 2, 3, 4, 5, 6, 7, 8, 9, 10, 11, 12, 13, 14, 15], [0, 1, 2, 3, 4, 5, 6, 7, 8, 9, 10, 11, 12, 13, 14, 15, 16]] [[], [], [33], [33, 34], [32, 33, 34, 35], [32, 33, 34, 35, 36], [32, 33, 34, 35, 36, 37], [32, 33, 34, 35, 36, 37, 38], [32, 33, 34, 35, 36, 37], [32, 33, 34, 35, 36, 37, 38, 39, 40], [32, 33, 34, 35, 36, 37, 38, 39, 40, 41], [32, 33, 34, 35, 36, 37], [32, 33, 34, 35, 36, 37, 43], [32, 33, 34, 35, 36, 37], [32, 33, 34, 35, 36, 37, 43, 44, 45], [32, 33, 34, 35, 36, 37, 43, 44, 45, 46], [32, 33, 34, 35, 36, 37, 38, 39, 40, 41, 42, 43, 44, 45, 46, 47], [32, 33, 34, 35, 36, 37, 38, 39, 40, 41, 42, 43, 44, 45, 46, 47, 48]] [[33, 34, 35], [32], [32], [32], [], [], [40, 43, 44, 45, 46, 47], [40, 43, 44, 45, 46, 47], [38, 39, 43, 44, 45, 46, 47], [43, 44, 45, 46, 47], [43, 44, 45, 46, 47], [38, 39, 40, 41, 42, 45], [38, 39, 40, 41, 42, 45], [38, 39, 40, 41, 42, 43, 44], [38, 39, 40, 41, 42], [38, 39, 40, 41, 42], [], []] rfl ?_
        refine DR.step (q_moveC rfl rfl rfl) rfl rfl ?_; refine DR.step (q_fldp rfl rfl rfl rfl (by decide)) rfl rfl ?_; refine DR.step (q_ld1 rfl rfl rfl rfl rfl) rfl rfl ?_
        refine DR.step (q_len rfl rfl rfl) rfl rfl ?_; refine DR.step (q_geqK rfl rfl rfl rfl (by assumption)) rfl rfl ?_; refine DR.step (q_moveC rfl rfl rfl) rfl rfl ?_
        refine DR.step (Qt.no rfl rfl rfl rfl) rfl rfl ?_; refine DR.step (Qt.no rfl rfl rfl rfl) rfl rfl ?_; refine DR.step (Qt.no rfl rfl rfl rfl) rfl rfl ?_
        refine DR.step (Qt.no rfl rfl rfl rfl) rfl rfl ?_; refine DR.step (Qt.no rfl rfl rfl rfl) rfl rfl ?_; refine DR.step (Qt.no rfl rfl rfl rfl) rfl rfl ?_
        refine DR.step (Qt.no rfl rfl rfl rfl) rfl rfl ?_; refine DR.step (Qt.no rfl rfl rfl rfl) rfl rfl ?_; refine DR.step (Qt.no rfl rfl rfl rfl) rfl rfl ?_
        refine DR.step (Qt.no rfl rfl rfl rfl) rfl rfl ?_; refine DR.step (Qt.no rfl rfl rfl rfl) rfl rfl ?_; refine DR.step (q_pickT rfl rfl rfl rfl) rfl rfl ?_
        refine DR.stop (by kernel_rfl) (by kernel_rfl) ?_
        refine L_nil ?_; refine T_n ?_; refine A_ifT rfl ?_; refine A_region ?_; refine M0 (q_moveC rfl rfl rfl) rfl rfl ?_; refine M0 (q_moveC rfl rfl rfl) rfl rfl ?_
        refine M0 (q_call0 rfl rfl (hf) rfl) rfl rfl ?_
        refine M0 (q_cat rfl rfl rfl rfl (by simp only [bs_size, cat_size, List.length_cons, List.length_nil, List.length_append]; omega)) rfl rfl ?_
        refine M1 (q_bslice rfl rfl rfl rfl rfl rfl) rfl rfl ?_; refine M_appsb rfl rfl rfl rfl rfl rfl rfl rfl rfl rfl (by omega) (by omega) ?_; refine M0 (q_assignC rfl rfl rfl) rfl rfl ?_
        refine L_nil ?_; refine B_n ?_; refine T_n ?_; refine A_region ?_; refine M0 (q_add rfl rfl rfl rfl (by omega)) rfl rfl ?_; refine M0 (q_moveC rfl rfl rfl) rfl rfl ?_; refine L_nil ?_
        refine T_n ?_
        exact ⟨a.Scores.length - (k + 1), by omega, (fun k : Nat => (⟨_, [(2, .o (.c (.ptr 0 0))), (3, .o (.c (.ptr 1 0))), (5, .o (.c (.ref 2))), (28, I (els a.Scores).length), (29, I k)], [.box ((Enc.e a).map (V1.rd [])), .box ((Enc.e b).map (V1.rd [])), .row 1 (els (dS a b k))]⟩ : St)) (k + 1), W_go [0, 1, 2] (by decide) rfl (row3p (els_snoc (filt_yes _ (sc_T h4)))) (.cons rfl (.cons rfl (.cons rfl (.cons rfl (.cons rfl (.nil)))))), k + 1, by omega, trivial, rfl⟩
      · have hb4 : decide (((els b.Scores).length : Int) ≤ k) = false := decide_eq_false (by omega)
        have h5 : k < b.Scores.length := by omega
        have hat2 := els_at h5
        by_cases h6 : a.Scores[k] ≠ b.Scores[k]
        · have hb6 : decide (a.Scores[k] ≠ b.Scores[k]) = true := decide_eq_true h6
          refine A_skip ?_; refine T_n ?_; refine A_seq ?_; refine A_block ?_; refine A_seq ?_; refine A_region ?_; refine M0 (q_moveC rfl rfl rfl) rfl rfl ?_; refine M0 (q_assignC rfl rfl rfl) rfl rfl ?_
          refine L_nil ?_; refine T_n ?_; refine A_seq ?_
          refine A_draw [[], [], [1], [1, 2], [0, 1, 2, 3], [0, 1, 2, 3, 4], [0, 1, 2, 3, 4, 5], [0, 1, 2, 3, 4, 5, 6], [0, 1, 2, 3, 4, 5], [0, 1, 2, 3, 4, 5, 6, 7, 8], [0, 1, 2, 3, 4, 5, 6, 7, 8, 9], [0, 1, 2, 3, 4, 5], [0, 1, 2, 3, 4, 5, 11], [0, 1, 2, 3, 4, 5], [0, 1, 2, 3, 4, 5, 11, 12, 13], [0, 1, 2, 3, 4, 5, 11, 12, 13, 14], [0, 1, 2, 3, 4, 5, 6, 7, 8, 9, 10, 11, 12, 13, 14, 15], [0, 1, 2, 3, 4, 5, 6, 7, 8, 9, 10, 11, 12, 13, 14, 15, 16]] [[], [], [33], [33, 34], [32, 33, 34, 35], [32, 33, 34, 35, 36], [32, 33, 34, 35, 36, 37], [32, 33, 34, 35, 36, 37, 38], [32, 33, 34, 35, 36, 37], [32, 33, 34, 35, 36, 37, 38, 39, 40], [32, 33, 34, 35, 36, 37, 38, 39, 40, 41], [32, 33, 34, 35, 36, 37], [32, 33, 34, 35, 36, 37, 43], [32, 33, 34, 35, 36, 37], [32, 33, 34, 35, 36, 37, 43, 44, 45], [32, 33, 34, 35, 36, 37, 43, 44, 45, 46], [32, 33, 34, 35, 36, 37, 38, 39, 40, 41, 42, 43, 44, 45, 46, 47], [32, 33, 34, 35, 36, 37, 38, 39, 40, 41, 42, 43, 44, 45, 46, 47, 48]] [[33, 34, 35], [32], [32], [32], [], [], [40, 43, 44, 45, 46, 47], [40, 43, 44, 45, 46, 47], [38, 39, 43, 44, 45, 46, 47], [43, 44, 45, 46, 47], [43, 44, 45, 46, 47], [38, 39, 40, 41, 42, 45], [38, 39, 40, 41, 42, 45], [38, 39, 40, 41, 42, 43, 44], [38, 39, 40, 41, 42], [38, 39, 40, 41, 42], [], []] rfl ?_
          refine DR.step (q_moveC rfl rfl rfl) rfl rfl ?_; refine DR.step (q_fldp rfl rfl rfl rfl (by decide)) rfl rfl ?_; refine DR.step (q_ld1 rfl rfl rfl rfl rfl) rfl rfl ?_
          refine DR.step (q_len rfl rfl rfl) rfl rfl ?_; refine DR.step (q_geqK rfl rfl rfl rfl (by assumption)) rfl rfl ?_; refine DR.step (q_moveC rfl rfl rfl) rfl rfl ?_
          refine DR.step (Qt.yes rfl rfl rfl (q_fldp rfl rfl rfl rfl (by decide))) rfl rfl ?_; refine DR.step (Qt.yes rfl rfl rfl (q_ld1 rfl rfl rfl rfl rfl)) rfl rfl ?_
          refine DR.step (Qt.yes rfl rfl rfl (q_moveC rfl rfl rfl)) rfl rfl ?_; refine DR.step (Qt.yes rfl rfl rfl (q_at rfl rfl rfl rfl (by omega) (by assumption) rfl)) rfl rfl ?_
          refine DR.step (Qt.yes rfl rfl rfl (q_lr1 rfl rfl rfl rfl)) rfl rfl ?_; refine DR.step (Qt.yes rfl rfl rfl (q_fldp rfl rfl rfl rfl (by decide))) rfl rfl ?_
          refine DR.step (Qt.yes rfl rfl rfl (q_ld1 rfl rfl rfl rfl rfl)) rfl rfl ?_; refine DR.step (Qt.yes rfl rfl rfl (q_moveC rfl rfl rfl)) rfl rfl ?_
          refine DR.step (Qt.yes rfl rfl rfl (q_at rfl rfl rfl rfl (by omega) (by assumption) rfl)) rfl rfl ?_; refine DR.step (Qt.yes rfl rfl rfl (q_lr1 rfl rfl rfl rfl)) rfl rfl ?_
          refine DR.step (Qt.yes rfl rfl rfl (q_neqK rfl rfl rfl rfl (by assumption))) rfl rfl ?_; refine DR.step (q_pickF rfl rfl rfl rfl) rfl rfl ?_
          refine DR.stop (by kernel_rfl) (by kernel_rfl) ?_
          refine L_nil ?_; refine T_n ?_; refine A_ifT rfl ?_; refine A_region ?_; refine M0 (q_moveC rfl rfl rfl) rfl rfl ?_; refine M0 (q_moveC rfl rfl rfl) rfl rfl ?_
          refine M0 (q_call0 rfl rfl (hf) rfl) rfl rfl ?_
          refine M0 (q_cat rfl rfl rfl rfl (by simp only [bs_size, cat_size, List.length_cons, List.length_nil, List.length_append]; omega)) rfl rfl ?_
          refine M1 (q_bslice rfl rfl rfl rfl rfl rfl) rfl rfl ?_; refine M_appsb rfl rfl rfl rfl rfl rfl rfl rfl rfl rfl (by omega) (by omega) ?_; refine M0 (q_assignC rfl rfl rfl) rfl rfl ?_
          refine L_nil ?_; refine B_n ?_; refine T_n ?_; refine A_region ?_; refine M0 (q_add rfl rfl rfl rfl (by omega)) rfl rfl ?_; refine M0 (q_moveC rfl rfl rfl) rfl rfl ?_; refine L_nil ?_
          refine T_n ?_
          exact ⟨a.Scores.length - (k + 1), by omega, (fun k : Nat => (⟨_, [(2, .o (.c (.ptr 0 0))), (3, .o (.c (.ptr 1 0))), (5, .o (.c (.ref 2))), (28, I (els a.Scores).length), (29, I k)], [.box ((Enc.e a).map (V1.rd [])), .box ((Enc.e b).map (V1.rd [])), .row 1 (els (dS a b k))]⟩ : St)) (k + 1), W_go [0, 1, 2] (by decide) rfl (row3p (els_snoc (filt_yes _ (by rw [sc_is h3 h5, hb6])))) (.cons rfl (.cons rfl (.cons rfl (.cons rfl (.cons rfl (.nil)))))), k + 1, by omega, trivial, rfl⟩
        · have hb6 : decide (a.Scores[k] ≠ b.Scores[k]) = false := decide_eq_false h6
          refine A_skip ?_; refine T_n ?_; refine A_seq ?_; refine A_block ?_; refine A_seq ?_; refine A_region ?_; refine M0 (q_moveC rfl rfl rfl) rfl rfl ?_; refine M0 (q_assignC rfl rfl rfl) rfl rfl ?_
          refine L_nil ?_; refine T_n ?_; refine A_seq ?_
          refine A_draw [[], [], [1], [1, 2], [0, 1, 2, 3], [0, 1, 2, 3, 4], [0, 1, 2, 3, 4, 5], [0, 1, 2, 3, 4, 5, 6], [0, 1, 2, 3, 4, 5], [0, 1, 2, 3, 4, 5, 6, 7, 8], [0, 1, 2, 3, 4, 5, 6, 7, 8, 9], [0, 1, 2, 3, 4, 5], [0, 1, 2, 3, 4, 5, 11], [0, 1, 2, 3, 4, 5], [0, 1, 2, 3, 4, 5, 11, 12, 13], [0, 1, 2, 3, 4, 5, 11, 12, 13, 14], [0, 1, 2, 3, 4, 5, 6, 7, 8, 9, 10, 11, 12, 13, 14, 15], [0, 1, 2, 3, 4, 5, 6, 7, 8, 9, 10, 11, 12, 13, 14, 15, 16]] [[], [], [33], [33, 34], [32, 33, 34, 35], [32, 33, 34, 35, 36], [32, 33, 34, 35, 36, 37], [32, 33, 34, 35, 36, 37, 38], [32, 33, 34, 35, 36, 37], [32, 33, 34, 35, 36, 37, 38, 39, 40], [32, 33, 34, 35, 36, 37, 38, 39, 40, 41], [32, 33, 34, 35, 36, 37], [32, 33, 34, 35, 36, 37, 43], [32, 33, 34, 35, 36, 37], [32, 33, 34, 35, 36, 37, 43, 44, 45], [32, 33, 34, 35, 36, 37, 43, 44, 45, 46], [32, 33, 34, 35, 36, 37, 38, 39, 40, 41, 42, 43, 44, 45, 46, 47], [32, 33, 34, 35, 36, 37, 38, 39, 40, 41, 42, 43, 44, 45, 46, 47, 48]] [[33, 34, 35], [32], [32], [32], [], [], [40, 43, 44, 45, 46, 47], [40, 43, 44, 45, 46, 47], [38, 39, 43, 44, 45, 46, 47], [43, 44, 45, 46, 47], [43, 44, 45, 46, 47], [38, 39, 40, 41, 42, 45], [38, 39, 40, 41, 42, 45], [38, 39, 40, 41, 42, 43, 44], [38, 39, 40, 41, 42], [38, 39, 40, 41, 42], [], []] rfl ?_
          refine DR.step (q_moveC rfl rfl rfl) rfl rfl ?_; refine DR.step (q_fldp rfl rfl rfl rfl (by decide)) rfl rfl ?_; refine DR.step (q_ld1 rfl rfl rfl rfl rfl) rfl rfl ?_
          refine DR.step (q_len rfl rfl rfl) rfl rfl ?_; refine DR.step (q_geqK rfl rfl rfl rfl (by assumption)) rfl rfl ?_; refine DR.step (q_moveC rfl rfl rfl) rfl rfl ?_
          refine DR.step (Qt.yes rfl rfl rfl (q_fldp rfl rfl rfl rfl (by decide))) rfl rfl ?_; refine DR.step (Qt.yes rfl rfl rfl (q_ld1 rfl rfl rfl rfl rfl)) rfl rfl ?_
          refine DR.step (Qt.yes rfl rfl rfl (q_moveC rfl rfl rfl)) rfl rfl ?_; refine DR.step (Qt.yes rfl rfl rfl (q_at rfl rfl rfl rfl (by omega) (by assumption) rfl)) rfl rfl ?_
          refine DR.step (Qt.yes rfl rfl rfl (q_lr1 rfl rfl rfl rfl)) rfl rfl ?_; refine DR.step (Qt.yes rfl rfl rfl (q_fldp rfl rfl rfl rfl (by decide))) rfl rfl ?_
          refine DR.step (Qt.yes rfl rfl rfl (q_ld1 rfl rfl rfl rfl rfl)) rfl rfl ?_; refine DR.step (Qt.yes rfl rfl rfl (q_moveC rfl rfl rfl)) rfl rfl ?_
          refine DR.step (Qt.yes rfl rfl rfl (q_at rfl rfl rfl rfl (by omega) (by assumption) rfl)) rfl rfl ?_; refine DR.step (Qt.yes rfl rfl rfl (q_lr1 rfl rfl rfl rfl)) rfl rfl ?_
          refine DR.step (Qt.yes rfl rfl rfl (q_neqK rfl rfl rfl rfl (by assumption))) rfl rfl ?_; refine DR.step (q_pickF rfl rfl rfl rfl) rfl rfl ?_
          refine DR.stop (by kernel_rfl) (by kernel_rfl) ?_
          refine L_nil ?_; refine T_n ?_; refine A_ifF rfl ?_; refine A_skip ?_; refine B_n ?_; refine T_n ?_; refine A_region ?_; refine M0 (q_add rfl rfl rfl rfl (by omega)) rfl rfl ?_
          refine M0 (q_moveC rfl rfl rfl) rfl rfl ?_; refine L_nil ?_; refine T_n ?_
          exact ⟨a.Scores.length - (k + 1), by omega, (fun k : Nat => (⟨_, [(2, .o (.c (.ptr 0 0))), (3, .o (.c (.ptr 1 0))), (5, .o (.c (.ref 2))), (28, I (els a.Scores).length), (29, I k)], [.box ((Enc.e a).map (V1.rd [])), .box ((Enc.e b).map (V1.rd [])), .row 1 (els (dS a b k))]⟩ : St)) (k + 1), W_go [0, 1, 2] (by decide) rfl (row3p (congrArg els (filt_no _ (by rw [sc_is h3 h5, hb6])))) (.cons rfl (.cons rfl (.cons rfl (.cons rfl (.cons rfl (.nil)))))), k + 1, by omega, trivial, rfl⟩
    have h3 : ¬ k < a.Scores.length := by have := of_decide_eq_false h; omega
    have hk : k = a.Scores.length := by omega
    rw [hk]
    refine A_exit ?_; refine T_x ?_; refine T_x ?_; refine B_xs ?_; refine T_n ?_; refine A_seq ?_; refine A_seq ?_; refine A_region ?_; refine M0 (q_fldp rfl rfl rfl rfl (by decide)) rfl rfl ?_
    refine M0 (q_ld1 rfl rfl rfl rfl rfl) rfl rfl ?_; refine M0 (q_len rfl rfl rfl) rfl rfl ?_; refine M0 (q_moveC rfl rfl rfl) rfl rfl ?_; refine L_nil ?_; refine T_n ?_; refine A_block ?_
    refine A_loop (fun m st => ∃ i : Nat, i + m = a.Bodies.length ∧ (True) ∧ st = (fun i : Nat => (⟨_, [(2, .o (.c (.ptr 0 0))), (3, .o (.c (.ptr 1 0))), (5, .o (.c (.ref 2))), (59, I (els a.Bodies).length), (60, I i)], [.box ((Enc.e a).map (V1.rd [])), .box ((Enc.e b).map (V1.rd [])), .row 1 (els (dB a b i))]⟩ : St)) i) (a.Bodies.length) ⟨(fun i : Nat => (⟨_, [(2, .o (.c (.ptr 0 0))), (3, .o (.c (.ptr 1 0))), (5, .o (.c (.ref 2))), (59, I (els a.Bodies).length), (60, I i)], [.box ((Enc.e a).map (V1.rd [])), .box ((Enc.e b).map (V1.rd [])), .row 1 (els (dB a b i))]⟩ : St)) 0, W_go [0, 1, 2] (by decide) rfl (row3p (by rw [dB]; simp)) (.cons rfl (.cons rfl (.cons rfl (.cons rfl (.cons rfl (.nil)))))), 0, by omega, trivial, rfl⟩ ?_
    rintro m_B _ ⟨i, hk_B, hp_B, rfl⟩
    have hdl := dB_len a b i
    have hel := els_len (dB a b i)
    refine A_seq ?_; refine A_region ?_; refine M0 (q_lss rfl rfl rfl rfl) rfl rfl ?_; refine L_nil ?_; refine T_n ?_; refine A_seq ?_
    refine A_cond rfl (fun h => ?_) (fun h => ?_)
    · have h3 : i < a.Bodies.length := by have := of_decide_eq_true h; omega
      have hat := els_at h3
      have hf := I_FormatInt i (by omega)
      have hfs := fmtN_size i
      by_cases h4 : b.Bodies.length ≤ i
      · have hb4 : decide (((els b.Bodies).length : Int) ≤ i) = true := decide_eq_true (by omega)
        refine A_skip ?_; refine T_n ?_; refine A_seq ?_; refine A_block ?_; refine A_seq ?_; refine A_region ?_; refine M0 (q_moveC rfl rfl rfl) rfl rfl ?_; refine M0 (q_assignC rfl rfl rfl) rfl rfl ?_
        refine L_nil ?_; refine T_n ?_; refine A_seq ?_
        refine A_draw [[], [], [1], [1, 2], [0, 1, 2, 3], [0, 1, 2, 3, 4], [0, 1, 2, 3, 4, 5], [0, 1, 2, 3, 4, 5, 6], [0, 1, 2, 3, 4, 5], [0, 1, 2, 3, 4, 5, 6, 7, 8], [0, 1, 2, 3, 4, 5, 6, 7, 8, 9], [0, 1, 2, 3, 4, 5], [0, 1, 2, 3, 4, 5, 11], [0, 1, 2, 3, 4, 5], [0, 1, 2, 3, 4, 5, 11, 12, 13], [0, 1, 2, 3, 4, 5, 11, 12, 13, 14], [0, 1, 2, 3, 4, 5, 6, 7, 8, 9, 10, 11, 12, 13, 14, 15], [0, 1, 2, 3, 4, 5, 6, 7, 8, 9, 10, 11, 12, 13, 14, 15, 16]] [[], [], [64], [64, 65], [63, 64, 65, 66], [63, 64, 65, 66, 67], [63, 64, 65, 66, 67, 68], [63, 64, 65, 66, 67, 68, 69], [63, 64, 65, 66, 67, 68], [63, 64, 65, 66, 67, 68, 69, 70, 71], [63, 64, 65, 66, 67, 68, 69, 70, 71, 72], [63, 64, 65, 66, 67, 68], [63, 64, 65, 66, 67, 68, 74], [63, 64, 65, 66, 67, 68], [63, 64, 65, 66, 67, 68, 74, 75, 76], [63, 64, 65, 66, 67, 68, 74, 75, 76, 77], [63, 64, 65, 66, 67, 68, 69, 70, 71, 72, 73, 74, 75, 76, 77, 78], [63, 64, 65, 66, 67, 68, 69, 70, 71, 72, 73, 74, 75, 76, 77, 78, 79]] [[64, 65, 66], [63], [63], [63], [], [], [71, 74, 75, 76, 77, 78], [71, 74, 75, 76, 77, 78], [69, 70, 74, 75, 76, 77, 78], [74, 75, 76, 77, 78], [74, 75, 76, 77, 78], [69, 70, 71, 72, 73, 76], [69, 70, 71, 72, 73, 76], [69, 70, 71, 72, 73, 74, 75], [69, 70, 71, 72, 73], [69, 70, 71, 72, 73], [], []] rfl ?_
        refine DR.step (q_moveC rfl rfl rfl) rfl rfl ?_; refine DR.step (q_fldp rfl rfl rfl rfl (by decide)) rfl rfl ?_; refine DR.step (q_ld1 rfl rfl rfl rfl rfl) rfl rfl ?_
        refine DR.step (q_len rfl rfl rfl) rfl rfl ?_; refine DR.step (q_geqK rfl rfl rfl rfl (by assumption)) rfl rfl ?_; refine DR.step (q_moveC rfl rfl rfl) rfl rfl ?_
        refine DR.step (Qt.no rfl rfl rfl rfl) rfl rfl ?_; refine DR.step (Qt.no rfl rfl rfl rfl) rfl rfl ?_; refine DR.step (Qt.no rfl rfl rfl rfl) rfl rfl ?_
        refine DR.step (Qt.no rfl rfl rfl rfl) rfl rfl ?_; refine DR.step (Qt.no rfl rfl rfl rfl) rfl rfl ?_; refine DR.step (Qt.no rfl rfl rfl rfl) rfl rfl ?_
        refine DR.step (Qt.no rfl rfl rfl rfl) rfl rfl ?_; refine DR.step (Qt.no rfl rfl rfl rfl) rfl rfl ?_; refine DR.step (Qt.no rfl rfl rfl rfl) rfl rfl ?_
        refine DR.step (Qt.no rfl rfl rfl rfl) rfl rfl ?_; refine DR.step (Qt.no rfl rfl rfl rfl) rfl rfl ?_; refine DR.step (q_pickT rfl rfl rfl rfl) rfl rfl ?_
        refine DR.stop (by kernel_rfl) (by kernel_rfl) ?_
        refine L_nil ?_; refine T_n ?_; refine A_ifT rfl ?_; refine A_region ?_; refine M0 (q_moveC rfl rfl rfl) rfl rfl ?_; refine M0 (q_moveC rfl rfl rfl) rfl rfl ?_
        refine M0 (q_call0 rfl rfl (hf) rfl) rfl rfl ?_
        refine M0 (q_cat rfl rfl rfl rfl (by simp only [bs_size, cat_size, List.length_cons, List.length_nil, List.length_append]; omega)) rfl rfl ?_
        refine M1 (q_bslice rfl rfl rfl rfl rfl rfl) rfl rfl ?_; refine M_appsb rfl rfl rfl rfl rfl rfl rfl rfl rfl rfl (by omega) (by omega) ?_; refine M0 (q_assignC rfl rfl rfl) rfl rfl ?_
        refine L_nil ?_; refine B_n ?_; refine T_n ?_; refine A_region ?_; refine M0 (q_add rfl rfl rfl rfl (by omega)) rfl rfl ?_; refine M0 (q_moveC rfl rfl rfl) rfl rfl ?_; refine L_nil ?_
        refine T_n ?_
        exact ⟨a.Bodies.length - (i + 1), by omega, (fun i : Nat => (⟨_, [(2, .o (.c (.ptr 0 0))), (3, .o (.c (.ptr 1 0))), (5, .o (.c (.ref 2))), (59, I (els a.Bodies).length), (60, I i)], [.box ((Enc.e a).map (V1.rd [])), .box ((Enc.e b).map (V1.rd [])), .row 1 (els (dB a b i))]⟩ : St)) (i + 1), W_go [0, 1, 2] (by decide) rfl (row3p (els_snoc (filt_yes _ (bo_T h4)))) (.cons rfl (.cons rfl (.cons rfl (.cons rfl (.cons rfl (.nil)))))), i + 1, by omega, trivial, rfl⟩
      · have hb4 : decide (((els b.Bodies).length : Int) ≤ i) = false := decide_eq_false (by omega)
        have h5 : i < b.Bodies.length := by omega
        have hat2 := els_at h5
        by_cases h6 : bodyInts a.Bodies[i] ≠ bodyInts b.Bodies[i]
        · have hb6 : decide (bodyInts a.Bodies[i] ≠ bodyInts b.Bodies[i]) = true := decide_eq_true h6
          refine A_skip ?_; refine T_n ?_; refine A_seq ?_; refine A_block ?_; refine A_seq ?_; refine A_region ?_; refine M0 (q_moveC rfl rfl rfl) rfl rfl ?_; refine M0 (q_assignC rfl rfl rfl) rfl rfl ?_
          refine L_nil ?_; refine T_n ?_; refine A_seq ?_
          refine A_draw [[], [], [1], [1, 2], [0, 1, 2, 3], [0, 1, 2, 3, 4], [0, 1, 2, 3, 4, 5], [0, 1, 2, 3, 4, 5, 6], [0, 1, 2, 3, 4, 5], [0, 1, 2, 3, 4, 5, 6, 7, 8], [0, 1, 2, 3, 4, 5, 6, 7, 8, 9], [0, 1, 2, 3, 4, 5], [0, 1, 2, 3, 4, 5, 11], [0, 1, 2, 3, 4, 5], [0, 1, 2, 3, 4, 5, 11, 12, 13], [0, 1, 2, 3, 4, 5, 11, 12, 13, 14], [0, 1, 2, 3, 4, 5, 6, 7, 8, 9, 10, 11, 12, 13, 14, 15], [0, 1, 2, 3, 4, 5, 6, 7, 8, 9, 10, 11, 12, 13, 14, 15, 16]] [[], [], [64], [64, 65], [63, 64, 65, 66], [63, 64, 65, 66, 67], [63, 64, 65, 66, 67, 68], [63, 64, 65, 66, 67, 68, 69], [63, 64, 65, 66, 67, 68], [63, 64, 65, 66, 67, 68, 69, 70, 71], [63, 64, 65, 66, 67, 68, 69, 70, 71, 72], [63, 64, 65, 66, 67, 68], [63, 64, 65, 66, 67, 68, 74], [63, 64, 65, 66, 67, 68], [63, 64, 65, 66, 67, 68, 74, 75, 76], [63, 64, 65, 66, 67, 68, 74, 75, 76, 77], [63, 64, 65, 66, 67, 68, 69, 70, 71, 72, 73, 74, 75, 76, 77, 78], [63, 64, 65, 66, 67, 68, 69, 70, 71, 72, 73, 74, 75, 76, 77, 78, 79]] [[64, 65, 66], [63], [63], [63], [], [], [71, 74, 75, 76, 77, 78], [71, 74, 75, 76, 77, 78], [69, 70, 74, 75, 76, 77, 78], [74, 75, 76, 77, 78], [74, 75, 76, 77, 78], [69, 70, 71, 72, 73, 76], [69, 70, 71, 72, 73, 76], [69, 70, 71, 72, 73, 74, 75], [69, 70, 71, 72, 73], [69, 70, 71, 72, 73], [], []] rfl ?_
          refine DR.step (q_moveC rfl rfl rfl) rfl rfl ?_; refine DR.step (q_fldp rfl rfl rfl rfl (by decide)) rfl rfl ?_; refine DR.step (q_ld1 rfl rfl rfl rfl rfl) rfl rfl ?_
          refine DR.step (q_len rfl rfl rfl) rfl rfl ?_; refine DR.step (q_geqK rfl rfl rfl rfl (by assumption)) rfl rfl ?_; refine DR.step (q_moveC rfl rfl rfl) rfl rfl ?_
          refine DR.step (Qt.yes rfl rfl rfl (q_fldp rfl rfl rfl rfl (by decide))) rfl rfl ?_; refine DR.step (Qt.yes rfl rfl rfl (q_ld1 rfl rfl rfl rfl rfl)) rfl rfl ?_
          refine DR.step (Qt.yes rfl rfl rfl (q_moveC rfl rfl rfl)) rfl rfl ?_; refine DR.step (Qt.yes rfl rfl rfl (q_at rfl rfl rfl rfl (by omega) (by assumption) rfl)) rfl rfl ?_
          refine DR.step (Qt.yes rfl rfl rfl (q_lrN rfl rfl rfl rfl rfl)) rfl rfl ?_; refine DR.step (Qt.yes rfl rfl rfl (q_fldp rfl rfl rfl rfl (by decide))) rfl rfl ?_
          refine DR.step (Qt.yes rfl rfl rfl (q_ld1 rfl rfl rfl rfl rfl)) rfl rfl ?_; refine DR.step (Qt.yes rfl rfl rfl (q_moveC rfl rfl rfl)) rfl rfl ?_
          refine DR.step (Qt.yes rfl rfl rfl (q_at rfl rfl rfl rfl (by omega) (by assumption) rfl)) rfl rfl ?_; refine DR.step (Qt.yes rfl rfl rfl (q_lrN rfl rfl rfl rfl rfl)) rfl rfl ?_
          refine DR.step (Qt.yes rfl rfl rfl (q_aneq (ps := []) (qs := []) (xs := bodyInts a.Bodies[i]) (ys := bodyInts b.Bodies[i]) rfl rfl rfl rfl rfl rfl rfl rfl hb6)) rfl rfl ?_
          refine DR.step (q_pickF rfl rfl rfl rfl) rfl rfl ?_; refine DR.stop (by kernel_rfl) (by kernel_rfl) ?_
          refine L_nil ?_; refine T_n ?_; refine A_ifT rfl ?_; refine A_region ?_; refine M0 (q_moveC rfl rfl rfl) rfl rfl ?_; refine M0 (q_moveC rfl rfl rfl) rfl rfl ?_
          refine M0 (q_call0 rfl rfl (hf) rfl) rfl rfl ?_
          refine M0 (q_cat rfl rfl rfl rfl (by simp only [bs_size, cat_size, List.length_cons, List.length_nil, List.length_append]; omega)) rfl rfl ?_
          refine M1 (q_bslice rfl rfl rfl rfl rfl rfl) rfl rfl ?_; refine M_appsb rfl rfl rfl rfl rfl rfl rfl rfl rfl rfl (by omega) (by omega) ?_; refine M0 (q_assignC rfl rfl rfl) rfl rfl ?_
          refine L_nil ?_; refine B_n ?_; refine T_n ?_; refine A_region ?_; refine M0 (q_add rfl rfl rfl rfl (by omega)) rfl rfl ?_; refine M0 (q_moveC rfl rfl rfl) rfl rfl ?_; refine L_nil ?_
          refine T_n ?_
          exact ⟨a.Bodies.length - (i + 1), by omega, (fun i : Nat => (⟨_, [(2, .o (.c (.ptr 0 0))), (3, .o (.c (.ptr 1 0))), (5, .o (.c (.ref 2))), (59, I (els a.Bodies).length), (60, I i)], [.box ((Enc.e a).map (V1.rd [])), .box ((Enc.e b).map (V1.rd [])), .row 1 (els (dB a b i))]⟩ : St)) (i + 1), W_go [0, 1, 2] (by decide) rfl (row3p (els_snoc (filt_yes _ (by rw [bo_is h3 h5, hb6])))) (.cons rfl (.cons rfl (.cons rfl (.cons rfl (.cons rfl (.nil)))))), i + 1, by omega, trivial, rfl⟩
        · have hb6 : decide (bodyInts a.Bodies[i] ≠ bodyInts b.Bodies[i]) = false := decide_eq_false h6
          refine A_skip ?_; refine T_n ?_; refine A_seq ?_; refine A_block ?_; refine A_seq ?_; refine A_region ?_; refine M0 (q_moveC rfl rfl rfl) rfl rfl ?_; refine M0 (q_assignC rfl rfl rfl) rfl rfl ?_
          refine L_nil ?_; refine T_n ?_; refine A_seq ?_
          refine A_draw [[], [], [1], [1, 2], [0, 1, 2, 3], [0, 1, 2, 3, 4], [0, 1, 2, 3, 4, 5], [0, 1, 2, 3, 4, 5, 6], [0, 1, 2, 3, 4, 5], [0, 1, 2, 3, 4, 5, 6, 7, 8], [0, 1, 2, 3, 4, 5, 6, 7, 8, 9], [0, 1, 2, 3, 4, 5], [0, 1, 2, 3, 4, 5, 11], [0, 1, 2, 3, 4, 5], [0, 1, 2, 3, 4, 5, 11, 12, 13], [0, 1, 2, 3, 4, 5, 11, 12, 13, 14], [0, 1, 2, 3, 4, 5, 6, 7, 8, 9, 10, 11, 12, 13, 14, 15], [0, 1, 2, 3, 4, 5, 6, 7, 8, 9, 10, 11, 12, 13, 14, 15, 16]] [[], [], [64], [64, 65], [63, 64, 65, 66], [63, 64, 65, 66, 67], [63, 64, 65, 66, 67, 68], [63, 64, 65, 66, 67, 68, 69], [63, 64, 65, 66, 67, 68], [63, 64, 65, 66, 67, 68, 69, 70, 71], [63, 64, 65, 66, 67, 68, 69, 70, 71, 72], [63, 64, 65, 66, 67, 68], [63, 64, 65, 66, 67, 68, 74], [63, 64, 65, 66, 67, 68], [63, 64, 65, 66, 67, 68, 74, 75, 76], [63, 64, 65, 66, 67, 68, 74, 75, 76, 77], [63, 64, 65, 66, 67, 68, 69, 70, 71, 72, 73, 74, 75, 76, 77, 78], [63, 64, 65, 66, 67, 68, 69, 70, 71, 72, 73, 74, 75, 76, 77, 78, 79]] [[64, 65, 66], [63], [63], [63], [], [], [71, 74, 75, 76, 77, 78], [71, 74, 75, 76, 77, 78], [69, 70, 74, 75, 76, 77, 78], [74, 75, 76, 77, 78], [74, 75, 76, 77, 78], [69, 70, 71, 72, 73, 76], [69, 70, 71, 72, 73, 76], [69, 70, 71, 72, 73, 74, 75], [69, 70, 71, 72, 73], [69, 70, 71, 72, 73], [], []] rfl ?_
          refine DR.step (q_moveC rfl rfl rfl) rfl rfl ?_; refine DR.step (q_fldp rfl rfl rfl rfl (by decide)) rfl rfl ?_; refine DR.step (q_ld1 rfl rfl rfl rfl rfl) rfl rfl ?_
          refine DR.step (q_len rfl rfl rfl) rfl rfl ?_; refine DR.step (q_geqK rfl rfl rfl rfl (by assumption)) rfl rfl ?_; refine DR.step (q_moveC rfl rfl rfl) rfl rfl ?_
          refine DR.step (Qt.yes rfl rfl rfl (q_fldp rfl rfl rfl rfl (by decide))) rfl rfl ?_; refine DR.step (Qt.yes rfl rfl rfl (q_ld1 rfl rfl rfl rfl rfl)) rfl rfl ?_
          refine DR.step (Qt.yes rfl rfl rfl (q_moveC rfl rfl rfl)) rfl rfl ?_; refine DR.step (Qt.yes rfl rfl rfl (q_at rfl rfl rfl rfl (by omega) (by assumption) rfl)) rfl rfl ?_
          refine DR.step (Qt.yes rfl rfl rfl (q_lrN rfl rfl rfl rfl rfl)) rfl rfl ?_; refine DR.step (Qt.yes rfl rfl rfl (q_fldp rfl rfl rfl rfl (by decide))) rfl rfl ?_
          refine DR.step (Qt.yes rfl rfl rfl (q_ld1 rfl rfl rfl rfl rfl)) rfl rfl ?_; refine DR.step (Qt.yes rfl rfl rfl (q_moveC rfl rfl rfl)) rfl rfl ?_
          refine DR.step (Qt.yes rfl rfl rfl (q_at rfl rfl rfl rfl (by omega) (by assumption) rfl)) rfl rfl ?_; refine DR.step (Qt.yes rfl rfl rfl (q_lrN rfl rfl rfl rfl rfl)) rfl rfl ?_
          refine DR.step (Qt.yes rfl rfl rfl (q_aneq (ps := []) (qs := []) (xs := bodyInts a.Bodies[i]) (ys := bodyInts b.Bodies[i]) rfl rfl rfl rfl rfl rfl rfl rfl hb6)) rfl rfl ?_
          refine DR.step (q_pickF rfl rfl rfl rfl) rfl rfl ?_; refine DR.stop (by kernel_rfl) (by kernel_rfl) ?_
          refine L_nil ?_; refine T_n ?_; refine A_ifF rfl ?_; refine A_skip ?_; refine B_n ?_; refine T_n ?_; refine A_region ?_; refine M0 (q_add rfl rfl rfl rfl (by omega)) rfl rfl ?_
          refine M0 (q_moveC rfl rfl rfl) rfl rfl ?_; refine L_nil ?_; refine T_n ?_
          exact ⟨a.Bodies.length - (i + 1), by omega, (fun i : Nat => (⟨_, [(2, .o (.c (.ptr 0 0))), (3, .o (.c (.ptr 1 0))), (5, .o (.c (.ref 2))), (59, I (els a.Bodies).length), (60, I i)], [.box ((Enc.e a).map (V1.rd [])), .box ((Enc.e b).map (V1.rd [])), .row 1 (els (dB a b i))]⟩ : St)) (i + 1), W_go [0, 1, 2] (by decide) rfl (row3p (congrArg els (filt_no _ (by rw [bo_is h3 h5, hb6])))) (.cons rfl (.cons rfl (.cons rfl (.cons rfl (.cons rfl (.nil)))))), i + 1, by omega, trivial, rfl⟩
    have h3 : ¬ i < a.Bodies.length := by have := of_decide_eq_false h; omega
    have hk2 : i = a.Bodies.length := by omega
    rw [hk2]
    refine A_exit ?_; refine T_x ?_; refine T_x ?_; refine B_xs ?_; refine T_n ?_; refine A_seq ?_; refine A_seq ?_; refine A_region ?_; refine M0 (q_fldp rfl rfl rfl rfl (by decide)) rfl rfl ?_
    refine M0 (q_ld1 rfl rfl rfl rfl rfl) rfl rfl ?_; refine M0 (q_len rfl rfl rfl) rfl rfl ?_; refine M0 (q_assignC rfl rfl rfl) rfl rfl ?_; refine L_nil ?_; refine T_n ?_; refine A_block ?_
    refine A_loop (fun m__ st => ∃ (j : Nat), b.Scores.length - a.Scores.length - j = m__ ∧ (j ≤ b.Scores.length - a.Scores.length) ∧ st = (fun (j : Nat) => (⟨_, [(2, .o (.c (.ptr 0 0))), (3, .o (.c (.ptr 1 0))), (5, .o (.c (.ref 2))), (8, I ((a.Scores.length + j : Nat) : Int))], [.box ((Enc.e a).map (V1.rd [])), .box ((Enc.e b).map (V1.rd [])), .row 1 (els (dC a b j))]⟩ : St)) (j)) ((fun (j : Nat) => b.Scores.length - a.Scores.length - j) (0)) ⟨(fun (j : Nat) => (⟨_, [(2, .o (.c (.ptr 0 0))), (3, .o (.c (.ptr 1 0))), (5, .o (.c (.ref 2))), (8, I ((a.Scores.length + j : Nat) : Int))], [.box ((Enc.e a).map (V1.rd [])), .box ((Enc.e b).map (V1.rd [])), .row 1 (els (dC a b j))]⟩ : St)) (0), W_go [0, 1, 2] (by decide) rfl (row3p (by rw [dC]; simp)) (.cons rfl (.cons rfl (.cons rfl (.cons (I_eq (by omega)) (.nil))))), 0, rfl, Nat.zero_le _, rfl⟩ ?_
    rintro m_C _ ⟨j, hk_C, hp_C, rfl⟩
    have hdl := dC_len a b j
    have hel := els_len (dC a b j)
    refine A_seq ?_; refine A_seq ?_; refine A_region ?_; refine M0 (q_moveC rfl rfl rfl) rfl rfl ?_; refine M0 (q_fldp rfl rfl rfl rfl (by decide)) rfl rfl ?_
    refine M0 (q_ld1 rfl rfl rfl rfl rfl) rfl rfl ?_; refine M0 (q_len rfl rfl rfl) rfl rfl ?_; refine M0 (q_lss rfl rfl rfl rfl) rfl rfl ?_; refine L_nil ?_; refine T_n ?_
    refine A_cond rfl (fun h => ?_) (fun h => ?_)
    · have h3 : a.Scores.length + j < b.Scores.length := by have := of_decide_eq_true h; omega
      have hf := I_FormatInt (a.Scores.length + j) (by omega)
      have hfs := fmtN_size (a.Scores.length + j)
      refine A_skip ?_; refine T_n ?_; refine A_seq ?_; refine A_block ?_; refine A_region ?_; refine M0 (q_moveC rfl rfl rfl) rfl rfl ?_; refine M0 (q_moveC rfl rfl rfl) rfl rfl ?_
      refine M0 (q_call0 rfl rfl (hf) rfl) rfl rfl ?_
      refine M0 (q_cat rfl rfl rfl rfl (by simp only [bs_size, cat_size, List.length_cons, List.length_nil, List.length_append]; omega)) rfl rfl ?_
      refine M1 (q_bslice rfl rfl rfl rfl rfl rfl) rfl rfl ?_; refine M_appsb rfl rfl rfl rfl rfl rfl rfl rfl rfl rfl (by omega) (by omega) ?_; refine M0 (q_assignC rfl rfl rfl) rfl rfl ?_
      refine L_nil ?_; refine B_n ?_; refine T_n ?_; refine A_region ?_; refine M0 (q_moveC rfl rfl rfl) rfl rfl ?_; refine M0 (q_add rfl rfl rfl rfl (by omega)) rfl rfl ?_
      refine M0 (q_assignC rfl rfl rfl) rfl rfl ?_; refine L_nil ?_; refine T_n ?_
      refine ⟨b.Scores.length - a.Scores.length - (j + 1), (by omega), (fun (j : Nat) => (⟨_, [(2, .o (.c (.ptr 0 0))), (3, .o (.c (.ptr 1 0))), (5, .o (.c (.ref 2))), (8, I ((a.Scores.length + j : Nat) : Int))], [.box ((Enc.e a).map (V1.rd [])), .box ((Enc.e b).map (V1.rd [])), .row 1 (els (dC a b j))]⟩ : St)) (j + 1), W_go [0, 1, 2] (by decide) rfl (row3p (els_snoc (rng_snoc _))) (.cons rfl (.cons rfl (.cons rfl (.cons (I_eq (by omega)) (.nil))))), j + 1, rfl, by omega, rfl⟩
    have h3 : ¬ a.Scores.length + j < b.Scores.length := by have := of_decide_eq_false h; omega
    have hk3 : j = b.Scores.length - a.Scores.length := by omega
    rw [hk3]
    refine A_exit ?_; refine T_x ?_; refine T_x ?_; refine B_xs ?_; refine T_n ?_; refine A_seq ?_; refine A_seq ?_; refine A_region ?_; refine M0 (q_fldp rfl rfl rfl rfl (by decide)) rfl rfl ?_
    refine M0 (q_ld1 rfl rfl rfl rfl rfl) rfl rfl ?_; refine M0 (q_len rfl rfl rfl) rfl rfl ?_; refine M0 (q_assignC rfl rfl rfl) rfl rfl ?_; refine L_nil ?_; refine T_n ?_; refine A_block ?_
    refine A_loop (fun m__ st => ∃ (q : Nat), b.Bodies.length - a.Bodies.length - q = m__ ∧ (q ≤ b.Bodies.length - a.Bodies.length) ∧ st = (fun (q : Nat) => (⟨_, [(2, .o (.c (.ptr 0 0))), (3, .o (.c (.ptr 1 0))), (5, .o (.c (.ref 2))), (9, I ((a.Bodies.length + q : Nat) : Int))], [.box ((Enc.e a).map (V1.rd [])), .box ((Enc.e b).map (V1.rd [])), .row 1 (els (dD a b q))]⟩ : St)) (q)) ((fun (q : Nat) => b.Bodies.length - a.Bodies.length - q) (0)) ⟨(fun (q : Nat) => (⟨_, [(2, .o (.c (.ptr 0 0))), (3, .o (.c (.ptr 1 0))), (5, .o (.c (.ref 2))), (9, I ((a.Bodies.length + q : Nat) : Int))], [.box ((Enc.e a).map (V1.rd [])), .box ((Enc.e b).map (V1.rd [])), .row 1 (els (dD a b q))]⟩ : St)) (0), W_go [0, 1, 2] (by decide) rfl (row3p (by rw [dD]; simp)) (.cons rfl (.cons rfl (.cons rfl (.cons (I_eq (by omega)) (.nil))))), 0, rfl, Nat.zero_le _, rfl⟩ ?_
    rintro m_D _ ⟨q, hk_D, hp_D, rfl⟩
    have hdl := dD_len a b q
    have hel := els_len (dD a b q)
    refine A_seq ?_; refine A_seq ?_; refine A_region ?_; refine M0 (q_moveC rfl rfl rfl) rfl rfl ?_; refine M0 (q_fldp rfl rfl rfl rfl (by decide)) rfl rfl ?_
    refine M0 (q_ld1 rfl rfl rfl rfl rfl) rfl rfl ?_; refine M0 (q_len rfl rfl rfl) rfl rfl ?_; refine M0 (q_lss rfl rfl rfl rfl) rfl rfl ?_; refine L_nil ?_; refine T_n ?_
    refine A_cond rfl (fun h => ?_) (fun h => ?_)
    · have h3 : a.Bodies.length + q < b.Bodies.length := by have := of_decide_eq_true h; omega
      have hf := I_FormatInt (a.Bodies.length + q) (by omega)
      have hfs := fmtN_size (a.Bodies.length + q)
      refine A_skip ?_; refine T_n ?_; refine A_seq ?_; refine A_block ?_; refine A_region ?_; refine M0 (q_moveC rfl rfl rfl) rfl rfl ?_; refine M0 (q_moveC rfl rfl rfl) rfl rfl ?_
      refine M0 (q_call0 rfl rfl (hf) rfl) rfl rfl ?_
      refine M0 (q_cat rfl rfl rfl rfl (by simp only [bs_size, cat_size, List.length_cons, List.length_nil, List.length_append]; omega)) rfl rfl ?_
      refine M1 (q_bslice rfl rfl rfl rfl rfl rfl) rfl rfl ?_; refine M_appsb rfl rfl rfl rfl rfl rfl rfl rfl rfl rfl (by omega) (by omega) ?_; refine M0 (q_assignC rfl rfl rfl) rfl rfl ?_
      refine L_nil ?_; refine B_n ?_; refine T_n ?_; refine A_region ?_; refine M0 (q_moveC rfl rfl rfl) rfl rfl ?_; refine M0 (q_add rfl rfl rfl rfl (by omega)) rfl rfl ?_
      refine M0 (q_assignC rfl rfl rfl) rfl rfl ?_; refine L_nil ?_; refine T_n ?_
      refine ⟨b.Bodies.length - a.Bodies.length - (q + 1), (by omega), (fun (q : Nat) => (⟨_, [(2, .o (.c (.ptr 0 0))), (3, .o (.c (.ptr 1 0))), (5, .o (.c (.ref 2))), (9, I ((a.Bodies.length + q : Nat) : Int))], [.box ((Enc.e a).map (V1.rd [])), .box ((Enc.e b).map (V1.rd [])), .row 1 (els (dD a b q))]⟩ : St)) (q + 1), W_go [0, 1, 2] (by decide) rfl (row3p (els_snoc (rng_snoc _))) (.cons rfl (.cons rfl (.cons rfl (.cons (I_eq (by omega)) (.nil))))), q + 1, rfl, by omega, rfl⟩
    have h3 : ¬ a.Bodies.length + q < b.Bodies.length := by have := of_decide_eq_false h; omega
    have hk4 : q = b.Bodies.length - a.Bodies.length := by omega
    rw [hk4]
    refine A_exit ?_; refine T_x ?_; refine T_x ?_; refine B_xs ?_; refine T_n ?_; refine A_seq ?_; refine A_region ?_; refine M0 (q_moveC rfl rfl rfl) rfl rfl ?_
    refine M0 (q_assignC rfl rfl rfl) rfl rfl ?_; refine L_nil ?_; refine T_n ?_; refine A_ret ?_; refine F_r ?_
    exact E_tmp rfl rfl (W_end [2] (by decide) rfl rfl rfl)
  · have hse := of_decide_eq_false h
    have hds : dSeed a b = _ := if_neg hse
    refine A_skip ?_; refine T_n ?_; refine A_seq ?_; refine A_seq ?_; refine A_region ?_; refine M0 (q_fldp rfl rfl rfl rfl (by decide)) rfl rfl ?_
    refine M0 (q_ld1 rfl rfl rfl rfl rfl) rfl rfl ?_; refine M0 (q_len rfl rfl rfl) rfl rfl ?_; refine M0 (q_moveC rfl rfl rfl) rfl rfl ?_; refine L_nil ?_; refine T_n ?_; refine A_block ?_
    refine A_loop (fun m st => ∃ k : Nat, k + m = a.Scores.length ∧ (True) ∧ st = (fun k : Nat => (⟨_, [(2, .o (.c (.ptr 0 0))), (3, .o (.c (.ptr 1 0))), (5, .o (.c (.ref 2))), (28, I (els a.Scores).length), (29, I k)], [.box ((Enc.e a).map (V1.rd [])), .box ((Enc.e b).map (V1.rd [])), .row 1 (els (dS a b k))]⟩ : St)) k) (a.Scores.length) ⟨(fun k : Nat => (⟨_, [(2, .o (.c (.ptr 0 0))), (3, .o (.c (.ptr 1 0))), (5, .o (.c (.ref 2))), (28, I (els a.Scores).length), (29, I k)], [.box ((Enc.e a).map (V1.rd [])), .box ((Enc.e b).map (V1.rd [])), .row 1 (els (dS a b k))]⟩ : St)) 0, W_go [0, 1, 2] (by decide) rfl (row3p (by rw [dS, hds]; rfl)) (.cons rfl (.cons rfl (.cons rfl (.cons rfl (.cons rfl (.nil)))))), 0, by omega, trivial, rfl⟩ ?_
    rintro m_A _ ⟨k, hk_A, hp_A, rfl⟩
    have hdl := dS_len a b k
    have hel := els_len (dS a b k)
    refine A_seq ?_; refine A_region ?_; refine M0 (q_lss rfl rfl rfl rfl) rfl rfl ?_; refine L_nil ?_; refine T_n ?_; refine A_seq ?_
    refine A_cond rfl (fun h => ?_) (fun h => ?_)
    · have h3 : k < a.Scores.length := by have := of_decide_eq_true h; omega
      have hat := els_at h3
      have hf := I_FormatInt k (by omega)
      have hfs := fmtN_size k
      by_cases h4 : b.Scores.length ≤ k
      · have hb4 : decide (((els b.Scores).length : Int) ≤ k) = true := decide_eq_true (by omega)
        refine A_skip ?_; refine T_n ?_; refine A_seq ?_; refine A_block ?_; refine A_seq ?_; refine A_region ?_; refine M0 (q_moveC rfl rfl rfl) rfl rfl ?_; refine M0 (q_assignC rfl rfl rfl) rfl rfl ?_
        refine L_nil ?_; refine T_n ?_; refine A_seq ?_
        refine A_draw [[], [], [1], [1, 2], [0, 1, 2, 3], [0, 1, 2, 3, 4], [0, 1, 2, 3, 4, 5], [0, 1, 2, 3, 4, 5, 6], [0, 1, 2, 3, 4, 5], [0, 1, 2, 3, 4, 5, 6, 7, 8], [0, 1, 2, 3, 4, 5, 6, 7, 8, 9], [0, 1, 2, 3, 4, 5], [0, 1, 2, 3, 4, 5, 11], [0, 1, 2, 3, 4, 5], [0, 1, 2, 3, 4, 5, 11, 12, 13], [0, 1, 2, 3, 4, 5, 11, 12, 13, 14], [0, 1, 2, 3, 4, 5, 6, 7, 8, 9, 10, 11, 12, 13, 14, 15], [0, 1, 2, 3, 4, 5, 6, 7, 8, 9, 10, 11, 12, 13, 14, 15, 16]] [[], [], [33], [33, 34], [32, 33, 34, 35], [32, 33, 34, 35, 36], [32, 33, 34, 35, 36, 37], [32, 33, 34, 35, 36, 37, 38], [32, 33, 34, 35, 36, 37], [32, 33, 34, 35, 36, 37, 38, 39, 40], [32, 33, 34, 35, 36, 37, 38, 39, 40, 41], [32, 33, 34, 35, 36, 37], [32, 33, 34, 35, 36, 37, 43], [32, 33, 34, 35, 36, 37], [32, 33, 34, 35, 36, 37, 43, 44, 45], [32, 33, 34, 35, 36, 37, 43, 44, 45, 46], [32, 33, 34, 35, 36, 37, 38, 39, 40, 41, 42, 43, 44, 45, 46, 47], [32, 33, 34, 35, 36, 37, 38, 39, 40, 41, 42, 43, 44, 45, 46, 47, 48]] [[33, 34, 35], [32], [32], [32], [], [], [40, 43, 44, 45, 46, 47], [40, 43, 44, 45, 46, 47], [38, 39, 43, 44, 45, 46, 47], [43, 44, 45, 46, 47], [43, 44, 45, 46, 47], [38, 39, 40, 41, 42, 45], [38, 39, 40, 41, 42, 45], [38, 39, 40, 41, 42, 43, 44], [38, 39, 40, 41, 42], [38, 39, 40, 41, 42], [], []] rfl ?_
        refine DR.step (q_moveC rfl rfl rfl) rfl rfl ?_; refine DR.step (q_fldp rfl rfl rfl rfl (by decide)) rfl rfl ?_; refine DR.step (q_ld1 rfl rfl rfl rfl rfl) rfl rfl ?_
        refine DR.step (q_len rfl rfl rfl) rfl rfl ?_; refine DR.step (q_geqK rfl rfl rfl rfl (by assumption)) rfl rfl ?_; refine DR.step (q_moveC rfl rfl rfl) rfl rfl ?_
        refine DR.step (Qt.no rfl rfl rfl rfl) rfl rfl ?_; refine DR.step (Qt.no rfl rfl rfl rfl) rfl rfl ?_; refine DR.step (Qt.no rfl rfl rfl rfl) rfl rfl ?_
        refine DR.step (Qt.no rfl rfl rfl rfl) rfl rfl ?_; refine DR.step (Qt.no rfl rfl rfl rfl) rfl rfl ?_; refine DR.step (Qt.no rfl rfl rfl rfl) rfl rfl ?_
        refine DR.step (Qt.no rfl rfl rfl rfl) rfl rfl ?_; refine DR.step (Qt.no rfl rfl rfl rfl) rfl rfl ?_; refine DR.step (Qt.no rfl rfl rfl rfl) rfl rfl ?_
        refine DR.step (Qt.no rfl rfl rfl rfl) rfl rfl ?_; refine DR.step (Qt.no rfl rfl rfl rfl) rfl rfl ?_; refine DR.step (q_pickT rfl rfl rfl rfl) rfl rfl ?_
        refine DR.stop (by kernel_rfl) (by kernel_rfl) ?_
        refine L_nil ?_; refine T_n ?_; refine A_ifT rfl ?_; refine A_region ?_; refine M0 (q_moveC rfl rfl rfl) rfl rfl ?_; refine M0 (q_moveC rfl rfl rfl) rfl rfl ?_
        refine M0 (q_call0 rfl rfl (hf) rfl) rfl rfl ?_
        refine M0 (q_cat rfl rfl rfl rfl (by simp only [bs_size, cat_size, List.length_cons, List.length_nil, List.length_append]; omega)) rfl rfl ?_
        refine M1 (q_bslice rfl rfl rfl rfl rfl rfl) rfl rfl ?_; refine M_appsb rfl rfl rfl rfl rfl rfl rfl rfl rfl rfl (by omega) (by omega) ?_; refine M0 (q_assignC rfl rfl rfl) rfl rfl ?_
        refine L_nil ?_; refine B_n ?_; refine T_n ?_; refine A_region ?_; refine M0 (q_add rfl rfl rfl rfl (by omega)) rfl rfl ?_; refine M0 (q_moveC rfl rfl rfl) rfl rfl ?_; refine L_nil ?_
        refine T_n ?_
        exact ⟨a.Scores.length - (k + 1), by omega, (fun k : Nat => (⟨_, [(2, .o (.c (.ptr 0 0))), (3, .o (.c (.ptr 1 0))), (5, .o (.c (.ref 2))), (28, I (els a.Scores).length), (29, I k)], [.box ((Enc.e a).map (V1.rd [])), .box ((Enc.e b).map (V1.rd [])), .row 1 (els (dS a b k))]⟩ : St)) (k + 1), W_go [0, 1, 2] (by decide) rfl (row3p (els_snoc (filt_yes _ (sc_T h4)))) (.cons rfl (.cons rfl (.cons rfl (.cons rfl (.cons rfl (.nil)))))), k + 1, by omega, trivial, rfl⟩
      · have hb4 : decide (((els b.Scores).length : Int) ≤ k) = false := decide_eq_false (by omega)
        have h5 : k < b.Scores.length := by omega
        have hat2 := els_at h5
        by_cases h6 : a.Scores[k] ≠ b.Scores[k]
        · have hb6 : decide (a.Scores[k] ≠ b.Scores[k]) = true := decide_eq_true h6
          refine A_skip ?_; refine T_n ?_; refine A_seq ?_; refine A_block ?_; refine A_seq ?_; refine A_region ?_; refine M0 (q_moveC rfl rfl rfl) rfl rfl ?_; refine M0 (q_assignC rfl rfl rfl) rfl rfl ?_
          refine L_nil ?_; refine T_n ?_; refine A_seq ?_
          refine A_draw [[], [], [1], [1, 2], [0, 1, 2, 3], [0, 1, 2, 3, 4], [0, 1, 2, 3, 4, 5], [0, 1, 2, 3, 4, 5, 6], [0, 1, 2, 3, 4, 5], [0, 1, 2, 3, 4, 5, 6, 7, 8], [0, 1, 2, 3, 4, 5, 6, 7, 8, 9], [0, 1, 2, 3, 4, 5], [0, 1, 2, 3, 4, 5, 11], [0, 1, 2, 3, 4, 5], [0, 1, 2, 3, 4, 5, 11, 12, 13], [0, 1, 2, 3, 4, 5, 11, 12, 13, 14], [0, 1, 2, 3, 4, 5, 6, 7, 8, 9, 10, 11, 12, 13, 14, 15], [0, 1, 2, 3, 4, 5, 6, 7, 8, 9, 10, 11, 12, 13, 14, 15, 16]] [[], [], [33], [33, 34], [32, 33, 34, 35], [32, 33, 34, 35, 36], [32, 33, 34, 35, 36, 37], [32, 33, 34, 35, 36, 37, 38], [32, 33, 34, 35, 36, 37], [32, 33, 34, 35, 36, 37, 38, 39, 40], [32, 33, 34, 35, 36, 37, 38, 39, 40, 41], [32, 33, 34, 35, 36, 37], [32, 33, 34, 35, 36, 37, 43], [32, 33, 34, 35, 36, 37], [32, 33, 34, 35, 36, 37, 43, 44, 45], [32, 33, 34, 35, 36, 37, 43, 44, 45, 46], [32, 33, 34, 35, 36, 37, 38, 39, 40, 41, 42, 43, 44, 45, 46, 47], [32, 33, 34, 35, 36, 37, 38, 39, 40, 41, 42, 43, 44, 45, 46, 47, 48]] [[33, 34, 35], [32], [32], [32], [], [], [40, 43, 44, 45, 46, 47], [40, 43, 44, 45, 46, 47], [38, 39, 43, 44, 45, 46, 47], [43, 44, 45, 46, 47], [43, 44, 45, 46, 47], [38, 39, 40, 41, 42, 45], [38, 39, 40, 41, 42, 45], [38, 39, 40, 41, 42, 43, 44], [38, 39, 40, 41, 42], [38, 39, 40, 41, 42], [], []] rfl ?_
          refine DR.step (q_moveC rfl rfl rfl) rfl rfl ?_; refine DR.step (q_fldp rfl rfl rfl rfl (by decide)) rfl rfl ?_; refine DR.step (q_ld1 rfl rfl rfl rfl rfl) rfl rfl ?_
          refine DR.step (q_len rfl rfl rfl) rfl rfl ?_; refine DR.step (q_geqK rfl rfl rfl rfl (by assumption)) rfl rfl ?_; refine DR.step (q_moveC rfl rfl rfl) rfl rfl ?_
          refine DR.step (Qt.yes rfl rfl rfl (q_fldp rfl rfl rfl rfl (by decide))) rfl rfl ?_; refine DR.step (Qt.yes rfl rfl rfl (q_ld1 rfl rfl rfl rfl rfl)) rfl rfl ?_
          refine DR.step (Qt.yes rfl rfl rfl (q_moveC rfl rfl rfl)) rfl rfl ?_; refine DR.step (Qt.yes rfl rfl rfl (q_at rfl rfl rfl rfl (by omega) (by assumption) rfl)) rfl rfl ?_
          refine DR.step (Qt.yes rfl rfl rfl (q_lr1 rfl rfl rfl rfl)) rfl rfl ?_; refine DR.step (Qt.yes rfl rfl rfl (q_fldp rfl rfl rfl rfl (by decide))) rfl rfl ?_
          refine DR.step (Qt.yes rfl rfl rfl (q_ld1 rfl rfl rfl rfl rfl)) rfl rfl ?_; refine DR.step (Qt.yes rfl rfl rfl (q_moveC rfl rfl rfl)) rfl rfl ?_
          refine DR.step (Qt.yes rfl rfl rfl (q_at rfl rfl rfl rfl (by omega) (by assumption) rfl)) rfl rfl ?_; refine DR.step (Qt.yes rfl rfl rfl (q_lr1 rfl rfl rfl rfl)) rfl rfl ?_
          refine DR.step (Qt.yes rfl rfl rfl (q_neqK rfl rfl rfl rfl (by assumption))) rfl rfl ?_; refine DR.step (q_pickF rfl rfl rfl rfl) rfl rfl ?_
          refine DR.stop (by kernel_rfl) (by kernel_rfl) ?_
          refine L_nil ?_; refine T_n ?_; refine A_ifT rfl ?_; refine A_region ?_; refine M0 (q_moveC rfl rfl rfl) rfl rfl ?_; refine M0 (q_moveC rfl rfl rfl) rfl rfl ?_
          refine M0 (q_call0 rfl rfl (hf) rfl) rfl rfl ?_
          refine M0 (q_cat rfl rfl rfl rfl (by simp only [bs_size, cat_size, List.length_cons, List.length_nil, List.length_append]; omega)) rfl rfl ?_
          refine M1 (q_bslice rfl rfl rfl rfl rfl rfl) rfl rfl ?_; refine M_appsb rfl rfl rfl rfl rfl rfl rfl rfl rfl rfl (by omega) (by omega) ?_; refine M0 (q_assignC rfl rfl rfl) rfl rfl ?_
          refine L_nil ?_; refine B_n ?_; refine T_n ?_; refine A_region ?_; refine M0 (q_add rfl rfl rfl rfl (by omega)) rfl rfl ?_; refine M0 (q_moveC rfl rfl rfl) rfl rfl ?_; refine L_nil ?_
          refine T_n ?_
          exact ⟨a.Scores.length - (k + 1), by omega, (fun k : Nat => (⟨_, [(2, .o (.c (.ptr 0 0))), (3, .o (.c (.ptr 1 0))), (5, .o (.c (.ref 2))), (28, I (els a.Scores).length), (29, I k)], [.box ((Enc.e a).map (V1.rd [])), .box ((Enc.e b).map (V1.rd [])), .row 1 (els (dS a b k))]⟩ : St)) (k + 1), W_go [0, 1, 2] (by decide) rfl (row3p (els_snoc (filt_yes _ (by rw [sc_is h3 h5, hb6])))) (.cons rfl (.cons rfl (.cons rfl (.cons rfl (.cons rfl (.nil)))))), k + 1, by omega, trivial, rfl⟩
        · have hb6 : decide (a.Scores[k] ≠ b.Scores[k]) = false := decide_eq_false h6
          refine A_skip ?_; refine T_n ?_; refine A_seq ?_; refine A_block ?_; refine A_seq ?_; refine A_region ?_; refine M0 (q_moveC rfl rfl rfl) rfl rfl ?_; refine M0 (q_assignC rfl rfl rfl) rfl rfl ?_
          refine L_nil ?_; refine T_n ?_; refine A_seq ?_
          refine A_draw [[], [], [1], [1, 2], [0, 1, 2, 3], [0, 1, 2, 3, 4], [0, 1, 2, 3, 4, 5], [0, 1, 2, 3, 4, 5, 6], [0, 1, 2, 3, 4, 5], [0, 1, 2, 3, 4, 5, 6, 7, 8], [0, 1, 2, 3, 4, 5, 6, 7, 8, 9], [0, 1, 2, 3, 4, 5], [0, 1, 2, 3, 4, 5, 11], [0, 1, 2, 3, 4, 5], [0, 1, 2, 3, 4, 5, 11, 12, 13], [0, 1, 2, 3, 4, 5, 11, 12, 13, 14], [0, 1, 2, 3, 4, 5, 6, 7, 8, 9, 10, 11, 12, 13, 14, 15], [0, 1, 2, 3, 4, 5, 6, 7, 8, 9, 10, 11, 12, 13, 14, 15, 16]] [[], [], [33], [33, 34], [32, 33, 34, 35], [32, 33, 34, 35, 36], [32, 33, 34, 35, 36, 37], [32, 33, 34, 35, 36, 37, 38], [32, 33, 34, 35, 36, 37], [32, 33, 34, 35, 36, 37, 38, 39, 40], [32, 33, 34, 35, 36, 37, 38, 39, 40, 41], [32, 33, 34, 35, 36, 37], [32, 33, 34, 35, 36, 37, 43], [32, 33, 34, 35, 36, 37], [32, 33, 34, 35, 36, 37, 43, 44, 45], [32, 33, 34, 35, 36, 37, 43, 44, 45, 46], [32, 33, 34, 35, 36, 37, 38, 39, 40, 41, 42, 43, 44, 45, 46, 47], [32, 33, 34, 35, 36, 37, 38, 39, 40, 41, 42, 43, 44, 45, 46, 47, 48]] [[33, 34, 35], [32], [32], [32], [], [], [40, 43, 44, 45, 46, 47], [40, 43, 44, 45, 46, 47], [38, 39, 43, 44, 45, 46, 47], [43, 44, 45, 46, 47], [43, 44, 45, 46, 47], [38, 39, 40, 41, 42, 45], [38, 39, 40, 41, 42, 45], [38, 39, 40, 41, 42, 43, 44], [38, 39, 40, 41, 42], [38, 39, 40, 41, 42], [], []] rfl ?_
          refine DR.step (q_moveC rfl rfl rfl) rfl rfl ?_; refine DR.step (q_fldp rfl rfl rfl rfl (by decide)) rfl rfl ?_; refine DR.step (q_ld1 rfl rfl rfl rfl rfl) rfl rfl ?_
          refine DR.step (q_len rfl rfl rfl) rfl rfl ?_; refine DR.step (q_geqK rfl rfl rfl rfl (by assumption)) rfl rfl ?_; refine DR.step (q_moveC rfl rfl rfl) rfl rfl ?_
          refine DR.step (Qt.yes rfl rfl rfl (q_fldp rfl rfl rfl rfl (by decide))) rfl rfl ?_; refine DR.step (Qt.yes rfl rfl rfl (q_ld1 rfl rfl rfl rfl rfl)) rfl rfl ?_
          refine DR.step (Qt.yes rfl rfl rfl (q_moveC rfl rfl rfl)) rfl rfl ?_; refine DR.step (Qt.yes rfl rfl rfl (q_at rfl rfl rfl rfl (by omega) (by assumption) rfl)) rfl rfl ?_
          refine DR.step (Qt.yes rfl rfl rfl (q_lr1 rfl rfl rfl rfl)) rfl rfl ?_; refine DR.step (Qt.yes rfl rfl rfl (q_fldp rfl rfl rfl rfl (by decide))) rfl rfl ?_
          refine DR.step (Qt.yes rfl rfl rfl (q_ld1 rfl rfl rfl rfl rfl)) rfl rfl ?_; refine DR.step (Qt.yes rfl rfl rfl (q_moveC rfl rfl rfl)) rfl rfl ?_
          refine DR.step (Qt.yes rfl rfl rfl (q_at rfl rfl rfl rfl (by omega) (by assumption) rfl)) rfl rfl ?_; refine DR.step (Qt.yes rfl rfl rfl (q_lr1 rfl rfl rfl rfl)) rfl rfl ?_
          refine DR.step (Qt.yes rfl rfl rfl (q_neqK rfl rfl rfl rfl (by assumption))) rfl rfl ?_; refine DR.step (q_pickF rfl rfl rfl rfl) rfl rfl ?_
          refine DR.stop (by kernel_rfl) (by kernel_rfl) ?_
          refine L_nil ?_; refine T_n ?_; refine A_ifF rfl ?_; refine A_skip ?_; refine B_n ?_; refine T_n ?_; refine A_region ?_; refine M0 (q_add rfl rfl rfl rfl (by omega)) rfl rfl ?_
          refine M0 (q_moveC rfl rfl rfl) rfl rfl ?_; refine L_nil ?_; refine T_n ?_
          exact ⟨a.Scores.length - (k + 1), by omega, (fun k : Nat => (⟨_, [(2, .o (.c (.ptr 0 0))), (3, .o (.c (.ptr 1 0))), (5, .o (.c (.ref 2))), (28, I (els a.Scores).length), (29, I k)], [.box ((Enc.e a).map (V1.rd [])), .box ((Enc.e b).map (V1.rd [])), .row 1 (els (dS a b k))]⟩ : St)) (k + 1), W_go [0, 1, 2] (by decide) rfl (row3p (congrArg els (filt_no _ (by rw [sc_is h3 h5, hb6])))) (.cons rfl (.cons rfl (.cons rfl (.cons rfl (.cons rfl (.nil)))))), k + 1, by omega, trivial, rfl⟩
    have h3 : ¬ k < a.Scores.length := by have := of_decide_eq_false h; omega
    have hk : k = a.Scores.length := by omega
    rw [hk]
    refine A_exit ?_; refine T_x ?_; refine T_x ?_; refine B_xs ?_; refine T_n ?_; refine A_seq ?_; refine A_seq ?_; refine A_region ?_; refine M0 (q_fldp rfl rfl rfl rfl (by decide)) rfl rfl ?_
    refine M0 (q_ld1 rfl rfl rfl rfl rfl) rfl rfl ?_; refine M0 (q_len rfl rfl rfl) rfl rfl ?_; refine M0 (q_moveC rfl rfl rfl) rfl rfl ?_; refine L_nil ?_; refine T_n ?_; refine A_block ?_
    refine A_loop (fun m st => ∃ i : Nat, i + m = a.Bodies.length ∧ (True) ∧ st = (fun i : Nat => (⟨_, [(2, .o (.c (.ptr 0 0))), (3, .o (.c (.ptr 1 0))), (5, .o (.c (.ref 2))), (59, I (els a.Bodies).length), (60, I i)], [.box ((Enc.e a).map (V1.rd [])), .box ((Enc.e b).map (V1.rd [])), .row 1 (els (dB a b i))]⟩ : St)) i) (a.Bodies.length) ⟨(fun i : Nat => (⟨_, [(2, .o (.c (.ptr 0 0))), (3, .o (.c (.ptr 1 0))), (5, .o (.c (.ref 2))), (59, I (els a.Bodies).length), (60, I i)], [.box ((Enc.e a).map (V1.rd [])), .box ((Enc.e b).map (V1.rd [])), .row 1 (els (dB a b i))]⟩ : St)) 0, W_go [0, 1, 2] (by decide) rfl (row3p (by rw [dB]; simp)) (.cons rfl (.cons rfl (.cons rfl (.cons rfl (.cons rfl (.nil)))))), 0, by omega, trivial, rfl⟩ ?_
    rintro m_B _ ⟨i, hk_B, hp_B, rfl⟩
    have hdl := dB_len a b i
    have hel := els_len (dB a b i)
    refine A_seq ?_; refine A_region ?_; refine M0 (q_lss rfl rfl rfl rfl) rfl rfl ?_; refine L_nil ?_; refine T_n ?_; refine A_seq ?_
    refine A_cond rfl (fun h => ?_) (fun h => ?_)
    · have h3 : i < a.Bodies.length := by have := of_decide_eq_true h; omega
      have hat := els_at h3
      have hf := I_FormatInt i (by omega)
      have hfs := fmtN_size i
      by_cases h4 : b.Bodies.length ≤ i
      · have hb4 : decide (((els b.Bodies).length : Int) ≤ i) = true := decide_eq_true (by omega)
        refine A_skip ?_; refine T_n ?_; refine A_seq ?_; refine A_block ?_; refine A_seq ?_; refine A_region ?_; refine M0 (q_moveC rfl rfl rfl) rfl rfl ?_; refine M0 (q_assignC rfl rfl rfl) rfl rfl ?_
        refine L_nil ?_; refine T_n ?_; refine A_seq ?_
        refine A_draw [[], [], [1], [1, 2], [0, 1, 2, 3], [0, 1, 2, 3, 4], [0, 1, 2, 3, 4, 5], [0, 1, 2, 3, 4, 5, 6], [0, 1, 2, 3, 4, 5], [0, 1, 2, 3, 4, 5, 6, 7, 8], [0, 1, 2, 3, 4, 5, 6, 7, 8, 9], [0, 1, 2, 3, 4, 5], [0, 1, 2, 3, 4, 5, 11], [0, 1, 2, 3, 4, 5], [0, 1, 2, 3, 4, 5, 11, 12, 13], [0, 1, 2, 3, 4, 5, 11, 12, 13, 14], [0, 1, 2, 3, 4, 5, 6, 7, 8, 9, 10, 11, 12, 13, 14, 15], [0, 1, 2, 3, 4, 5, 6, 7, 8, 9, 10, 11, 12, 13, 14, 15, 16]] [[], [], [64], [64, 65], [63, 64, 65, 66], [63, 64, 65, 66, 67], [63, 64, 65, 66, 67, 68], [63, 64, 65, 66, 67, 68, 69], [63, 64, 65, 66, 67, 68], [63, 64, 65, 66, 67, 68, 69, 70, 71], [63, 64, 65, 66, 67, 68, 69, 70, 71, 72], [63, 64, 65, 66, 67, 68], [63, 64, 65, 66, 67, 68, 74], [63, 64, 65, 66, 67, 68], [63, 64, 65, 66, 67, 68, 74, 75, 76], [63, 64, 65, 66, 67, 68, 74, 75, 76, 77], [63, 64, 65, 66, 67, 68, 69, 70, 71, 72, 73, 74, 75, 76, 77, 78], [63, 64, 65, 66, 67, 68, 69, 70, 71, 72, 73, 74, 75, 76, 77, 78, 79]] [[64, 65, 66], [63], [63], [63], [], [], [71, 74, 75, 76, 77, 78], [71, 74, 75, 76, 77, 78], [69, 70, 74, 75, 76, 77, 78], [74, 75, 76, 77, 78], [74, 75, 76, 77, 78], [69, 70, 71, 72, 73, 76], [69, 70, 71, 72, 73, 76], [69, 70, 71, 72, 73, 74, 75], [69, 70, 71, 72, 73], [69, 70, 71, 72, 73], [], []] rfl ?_
        refine DR.step (q_moveC rfl rfl rfl) rfl rfl ?_; refine DR.step (q_fldp rfl rfl rfl rfl (by decide)) rfl rfl ?_; refine DR.step (q_ld1 rfl rfl rfl rfl rfl) rfl rfl ?_
        refine DR.step (q_len rfl rfl rfl) rfl rfl ?_; refine DR.step (q_geqK rfl rfl rfl rfl (by assumption)) rfl rfl ?_; refine DR.step (q_moveC rfl rfl rfl) rfl rfl ?_
        refine DR.step (Qt.no rfl rfl rfl rfl) rfl rfl ?_; refine DR.step (Qt.no rfl rfl rfl rfl) rfl rfl ?_; refine DR.step (Qt.no rfl rfl rfl rfl) rfl rfl ?_
        refine DR.step (Qt.no rfl rfl rfl rfl) rfl rfl ?_; refine DR.step (Qt.no rfl rfl rfl rfl) rfl rfl ?_; refine DR.step (Qt.no rfl rfl rfl rfl) rfl rfl ?_
        refine DR.step (Qt.no rfl rfl rfl rfl) rfl rfl ?_; refine DR.step (Qt.no rfl rfl rfl rfl) rfl rfl ?_; refine DR.step (Qt.no rfl rfl rfl rfl) rfl rfl ?_
        refine DR.step (Qt.no rfl rfl rfl rfl) rfl rfl ?_; refine DR.step (Qt.no rfl rfl rfl rfl) rfl rfl ?_; refine DR.step (q_pickT rfl rfl rfl rfl) rfl rfl ?_
        refine DR.stop (by kernel_rfl) (by kernel_rfl) ?_
        refine L_nil ?_; refine T_n ?_; refine A_ifT rfl ?_; refine A_region ?_; refine M0 (q_moveC rfl rfl rfl) rfl rfl ?_; refine M0 (q_moveC rfl rfl rfl) rfl rfl ?_
        refine M0 (q_call0 rfl rfl (hf) rfl) rfl rfl ?_
        refine M0 (q_cat rfl rfl rfl rfl (by simp only [bs_size, cat_size, List.length_cons, List.length_nil, List.length_append]; omega)) rfl rfl ?_
        refine M1 (q_bslice rfl rfl rfl rfl rfl rfl) rfl rfl ?_; refine M_appsb rfl rfl rfl rfl rfl rfl rfl rfl rfl rfl (by omega) (by omega) ?_; refine M0 (q_assignC rfl rfl rfl) rfl rfl ?_
        refine L_nil ?_; refine B_n ?_; refine T_n ?_; refine A_region ?_; refine M0 (q_add rfl rfl rfl rfl (by omega)) rfl rfl ?_; refine M0 (q_moveC rfl rfl rfl) rfl rfl ?_; refine L_nil ?_
        refine T_n ?_
        exact ⟨a.Bodies.length - (i + 1), by omega, (fun i : Nat => (⟨_, [(2, .o (.c (.ptr 0 0))), (3, .o (.c (.ptr 1 0))), (5, .o (.c (.ref 2))), (59, I (els a.Bodies).length), (60, I i)], [.box ((Enc.e a).map (V1.rd [])), .box ((Enc.e b).map (V1.rd [])), .row 1 (els (dB a b i))]⟩ : St)) (i + 1), W_go [0, 1, 2] (by decide) rfl (row3p (els_snoc (filt_yes _ (bo_T h4)))) (.cons rfl (.cons rfl (.cons rfl (.cons rfl (.cons rfl (.nil)))))), i + 1, by omega, trivial, rfl⟩
      · have hb4 : decide (((els b.Bodies).length : Int) ≤ i) = false := decide_eq_false (by omega)
        have h5 : i < b.Bodies.length := by omega
        have hat2 := els_at h5
        by_cases h6 : bodyInts a.Bodies[i] ≠ bodyInts b.Bodies[i]
        · have hb6 : decide (bodyInts a.Bodies[i] ≠ bodyInts b.Bodies[i]) = true := decide_eq_true h6
          refine A_skip ?_; refine T_n ?_; refine A_seq ?_; refine A_block ?_; refine A_seq ?_; refine A_region ?_; refine M0 (q_moveC rfl rfl rfl) rfl rfl ?_; refine M0 (q_assignC rfl rfl rfl) rfl rfl ?_
          refine L_nil ?_; refine T_n ?_; refine A_seq ?_
          refine A_draw [[], [], [1], [1, 2], [0, 1, 2, 3], [0, 1, 2, 3, 4], [0, 1, 2, 3, 4, 5], [0, 1, 2, 3, 4, 5, 6], [0, 1, 2, 3, 4, 5], [0, 1, 2, 3, 4, 5, 6, 7, 8], [0, 1, 2, 3, 4, 5, 6, 7, 8, 9], [0, 1, 2, 3, 4, 5], [0, 1, 2, 3, 4, 5, 11], [0, 1, 2, 3, 4, 5], [0, 1, 2, 3, 4, 5, 11, 12, 13], [0, 1, 2, 3, 4, 5, 11, 12, 13, 14], [0, 1, 2, 3, 4, 5, 6, 7, 8, 9, 10, 11, 12, 13, 14, 15], [0, 1, 2, 3, 4, 5, 6, 7, 8, 9, 10, 11, 12, 13, 14, 15, 16]] [[], [], [64], [64, 65], [63, 64, 65, 66], [63, 64, 65, 66, 67], [63, 64, 65, 66, 67, 68], [63, 64, 65, 66, 67, 68, 69], [63, 64, 65, 66, 67, 68], [63, 64, 65, 66, 67, 68, 69, 70, 71], [63, 64, 65, 66, 67, 68, 69, 70, 71, 72], [63, 64, 65, 66, 67, 68], [63, 64, 65, 66, 67, 68, 74], [63, 64, 65, 66, 67, 68], [63, 64, 65, 66, 67, 68, 74, 75, 76], [63, 64, 65, 66, 67, 68, 74, 75, 76, 77], [63, 64, 65, 66, 67, 68, 69, 70, 71, 72, 73, 74, 75, 76, 77, 78], [63, 64, 65, 66, 67, 68, 69, 70, 71, 72, 73, 74, 75, 76, 77, 78, 79]] [[64, 65, 66], [63], [63], [63], [], [], [71, 74, 75, 76, 77, 78], [71, 74, 75, 76, 77, 78], [69, 70, 74, 75, 76, 77, 78], [74, 75, 76, 77, 78], [74, 75, 76, 77, 78], [69, 70, 71, 72, 73, 76], [69, 70, 71, 72, 73, 76], [69, 70, 71, 72, 73, 74, 75], [69, 70, 71, 72, 73], [69, 70, 71, 72, 73], [], []] rfl ?_
          refine DR.step (q_moveC rfl rfl rfl) rfl rfl ?_; refine DR.step (q_fldp rfl rfl rfl rfl (by decide)) rfl rfl ?_; refine DR.step (q_ld1 rfl rfl rfl rfl rfl) rfl rfl ?_
          refine DR.step (q_len rfl rfl rfl) rfl rfl ?_; refine DR.step (q_geqK rfl rfl rfl rfl (by assumption)) rfl rfl ?_; refine DR.step (q_moveC rfl rfl rfl) rfl rfl ?_
          refine DR.step (Qt.yes rfl rfl rfl (q_fldp rfl rfl rfl rfl (by decide))) rfl rfl ?_; refine DR.step (Qt.yes rfl rfl rfl (q_ld1 rfl rfl rfl rfl rfl)) rfl rfl ?_
          refine DR.step (Qt.yes rfl rfl rfl (q_moveC rfl rfl rfl)) rfl rfl ?_; refine DR.step (Qt.yes rfl rfl rfl (q_at rfl rfl rfl rfl (by omega) (by assumption) rfl)) rfl rfl ?_
          refine DR.step (Qt.yes rfl rfl rfl (q_lrN rfl rfl rfl rfl rfl)) rfl rfl ?_; refine DR.step (Qt.yes rfl rfl rfl (q_fldp rfl rfl rfl rfl (by decide))) rfl rfl ?_
          refine DR.step (Qt.yes rfl rfl rfl (q_ld1 rfl rfl rfl rfl rfl)) rfl rfl ?_; refine DR.step (Qt.yes rfl rfl rfl (q_moveC rfl rfl rfl)) rfl rfl ?_
          refine DR.step (Qt.yes rfl rfl rfl (q_at rfl rfl rfl rfl (by omega) (by assumption) rfl)) rfl rfl ?_; refine DR.step (Qt.yes rfl rfl rfl (q_lrN rfl rfl rfl rfl rfl)) rfl rfl ?_
          refine DR.step (Qt.yes rfl rfl rfl (q_aneq (ps := []) (qs := []) (xs := bodyInts a.Bodies[i]) (ys := bodyInts b.Bodies[i]) rfl rfl rfl rfl rfl rfl rfl rfl hb6)) rfl rfl ?_
          refine DR.step (q_pickF rfl rfl rfl rfl) rfl rfl ?_; refine DR.stop (by kernel_rfl) (by kernel_rfl) ?_
          refine L_nil ?_; refine T_n ?_; refine A_ifT rfl ?_; refine A_region ?_; refine M0 (q_moveC rfl rfl rfl) rfl rfl ?_; refine M0 (q_moveC rfl rfl rfl) rfl rfl ?_
          refine M0 (q_call0 rfl rfl (hf) rfl) rfl rfl ?_
          refine M0 (q_cat rfl rfl rfl rfl (by simp only [bs_size, cat_size, List.length_cons, List.length_nil, List.length_append]; omega)) rfl rfl ?_
          refine M1 (q_bslice rfl rfl rfl rfl rfl rfl) rfl rfl ?_; refine M_appsb rfl rfl rfl rfl rfl rfl rfl rfl rfl rfl (by omega) (by omega) ?_; refine M0 (q_assignC rfl rfl rfl) rfl rfl ?_
          refine L_nil ?_; refine B_n ?_; refine T_n ?_; refine A_region ?_; refine M0 (q_add rfl rfl rfl rfl (by omega)) rfl rfl ?_; refine M0 (q_moveC rfl rfl rfl) rfl rfl ?_; refine L_nil ?_
          refine T_n ?_
          exact ⟨a.Bodies.length - (i + 1), by omega, (fun i : Nat => (⟨_, [(2, .o (.c (.ptr 0 0))), (3, .o (.c (.ptr 1 0))), (5, .o (.c (.ref 2))), (59, I (els a.Bodies).length), (60, I i)], [.box ((Enc.e a).map (V1.rd [])), .box ((Enc.e b).map (V1.rd [])), .row 1 (els (dB a b i))]⟩ : St)) (i + 1), W_go [0, 1, 2] (by decide) rfl (row3p (els_snoc (filt_yes _ (by rw [bo_is h3 h5, hb6])))) (.cons rfl (.cons rfl (.cons rfl (.cons rfl (.cons rfl (.nil)))))), i + 1, by omega, trivial, rfl⟩
        · have hb6 : decide (bodyInts a.Bodies[i] ≠ bodyInts b.Bodies[i]) = false := decide_eq_false h6
          refine A_skip ?_; refine T_n ?_; refine A_seq ?_; refine A_block ?_; refine A_seq ?_; refine A_region ?_; refine M0 (q_moveC rfl rfl rfl) rfl rfl ?_; refine M0 (q_assignC rfl rfl rfl) rfl rfl ?_
          refine L_nil ?_; refine T_n ?_; refine A_seq ?_
          refine A_draw [[], [], [1], [1, 2], [0, 1, 2, 3], [0, 1, 2, 3, 4], [0, 1, 2, 3, 4, 5], [0, 1, 2, 3, 4, 5, 6], [0, 1, 2, 3, 4, 5], [0, 1, 2, 3, 4, 5, 6, 7, 8], [0, 1, 2, 3, 4, 5, 6, 7, 8, 9], [0, 1, 2, 3, 4, 5], [0, 1, 2, 3, 4, 5, 11], [0, 1, 2, 3, 4, 5], [0, 1, 2, 3, 4, 5, 11, 12, 13], [0, 1, 2, 3, 4, 5, 11, 12, 13, 14], [0, 1, 2, 3, 4, 5, 6, 7, 8, 9, 10, 11, 12, 13, 14, 15], [0, 1, 2, 3, 4, 5, 6, 7, 8, 9, 10, 11, 12, 13, 14, 15, 16]] [[], [], [64], [64, 65], [63, 64, 65, 66], [63, 64, 65, 66, 67], [63, 64, 65, 66, 67, 68], [63, 64, 65, 66, 67, 68, 69], [63, 64, 65, 66, 67, 68], [63, 64, 65, 66, 67, 68, 69, 70, 71], [63, 64, 65, 66, 67, 68, 69, 70, 71, 72], [63, 64, 65, 66, 67, 68], [63, 64, 65, 66, 67, 68, 74], [63, 64, 65, 66, 67, 68], [63, 64, 65, 66, 67, 68, 74, 75, 76], [63, 64, 65, 66, 67, 68, 74, 75, 76, 77], [63, 64, 65, 66, 67, 68, 69, 70, 71, 72, 73, 74, 75, 76, 77, 78], [63, 64, 65, 66, 67, 68, 69, 70, 71, 72, 73, 74, 75, 76, 77, 78, 79]] [[64, 65, 66], [63], [63], [63], [], [], [71, 74, 75, 76, 77, 78], [71, 74, 75, 76, 77, 78], [69, 70, 74, 75, 76, 77, 78], [74, 75, 76, 77, 78], [74, 75, 76, 77, 78], [69, 70, 71, 72, 73, 76], [69, 70, 71, 72, 73, 76], [69, 70, 71, 72, 73, 74, 75], [69, 70, 71, 72, 73], [69, 70, 71, 72, 73], [], []] rfl ?_
          refine DR.step (q_moveC rfl rfl rfl) rfl rfl ?_; refine DR.step (q_fldp rfl rfl rfl rfl (by decide)) rfl rfl ?_; refine DR.step (q_ld1 rfl rfl rfl rfl rfl) rfl rfl ?_
          refine DR.step (q_len rfl rfl rfl) rfl rfl ?_; refine DR.step (q_geqK rfl rfl rfl rfl (by assumption)) rfl rfl ?_; refine DR.step (q_moveC rfl rfl rfl) rfl rfl ?_
          refine DR.step (Qt.yes rfl rfl rfl (q_fldp rfl rfl rfl rfl (by decide))) rfl rfl ?_; refine DR.step (Qt.yes rfl rfl rfl (q_ld1 rfl rfl rfl rfl rfl)) rfl rfl ?_
          refine DR.step (Qt.yes rfl rfl rfl (q_moveC rfl rfl rfl)) rfl rfl ?_; refine DR.step (Qt.yes rfl rfl rfl (q_at rfl rfl rfl rfl (by omega) (by assumption) rfl)) rfl rfl ?_
          refine DR.step (Qt.yes rfl rfl rfl (q_lrN rfl rfl rfl rfl rfl)) rfl rfl ?_; refine DR.step (Qt.yes rfl rfl rfl (q_fldp rfl rfl rfl rfl (by decide))) rfl rfl ?_
          refine DR.step (Qt.yes rfl rfl rfl (q_ld1 rfl rfl rfl rfl rfl)) rfl rfl ?_; refine DR.step (Qt.yes rfl rfl rfl (q_moveC rfl rfl rfl)) rfl rfl ?_
          refine DR.step (Qt.yes rfl rfl rfl (q_at rfl rfl rfl rfl (by omega) (by assumption) rfl)) rfl rfl ?_; refine DR.step (Qt.yes rfl rfl rfl (q_lrN rfl rfl rfl rfl rfl)) rfl rfl ?_
          refine DR.step (Qt.yes rfl rfl rfl (q_aneq (ps := []) (qs := []) (xs := bodyInts a.Bodies[i]) (ys := bodyInts b.Bodies[i]) rfl rfl rfl rfl rfl rfl rfl rfl hb6)) rfl rfl ?_
          refine DR.step (q_pickF rfl rfl rfl rfl) rfl rfl ?_; refine DR.stop (by kernel_rfl) (by kernel_rfl) ?_
          refine L_nil ?_; refine T_n ?_; refine A_ifF rfl ?_; refine A_skip ?_; refine B_n ?_; refine T_n ?_; refine A_region ?_; refine M0 (q_add rfl rfl rfl rfl (by omega)) rfl rfl ?_
          refine M0 (q_moveC rfl rfl rfl) rfl rfl ?_; refine L_nil ?_; refine T_n ?_
          exact ⟨a.Bodies.length - (i + 1), by omega, (fun i : Nat => (⟨_, [(2, .o (.c (.ptr 0 0))), (3, .o (.c (.ptr 1 0))), (5, .o (.c (.ref 2))), (59, I (els a.Bodies).length), (60, I i)], [.box ((Enc.e a).map (V1.rd [])), .box ((Enc.e b).map (V1.rd [])), .row 1 (els (dB a b i))]⟩ : St)) (i + 1), W_go [0, 1, 2] (by decide) rfl (row3p (congrArg els (filt_no _ (by rw [bo_is h3 h5, hb6])))) (.cons rfl (.cons rfl (.cons rfl (.cons rfl (.cons rfl (.nil)))))), i + 1, by omega, trivial, rfl⟩
    have h3 : ¬ i < a.Bodies.length := by have := of_decide_eq_false h; omega
    have hk2 : i = a.Bodies.length := by omega
    rw [hk2]
    refine A_exit ?_; refine T_x ?_; refine T_x ?_; refine B_xs ?_; refine T_n ?_; refine A_seq ?_; refine A_seq ?_; refine A_region ?_; refine M0 (q_fldp rfl rfl rfl rfl (by decide)) rfl rfl ?_
    refine M0 (q_ld1 rfl rfl rfl rfl rfl) rfl rfl ?_; refine M0 (q_len rfl rfl rfl) rfl rfl ?_; refine M0 (q_assignC rfl rfl rfl) rfl rfl ?_; refine L_nil ?_; refine T_n ?_; refine A_block ?_
    refine A_loop (fun m__ st => ∃ (j : Nat), b.Scores.length - a.Scores.length - j = m__ ∧ (j ≤ b.Scores.length - a.Scores.length) ∧ st = (fun (j : Nat) => (⟨_, [(2, .o (.c (.ptr 0 0))), (3, .o (.c (.ptr 1 0))), (5, .o (.c (.ref 2))), (8, I ((a.Scores.length + j : Nat) : Int))], [.box ((Enc.e a).map (V1.rd [])), .box ((Enc.e b).map (V1.rd [])), .row 1 (els (dC a b j))]⟩ : St)) (j)) ((fun (j : Nat) => b.Scores.length - a.Scores.length - j) (0)) ⟨(fun (j : Nat) => (⟨_, [(2, .o (.c (.ptr 0 0))), (3, .o (.c (.ptr 1 0))), (5, .o (.c (.ref 2))), (8, I ((a.Scores.length + j : Nat) : Int))], [.box ((Enc.e a).map (V1.rd [])), .box ((Enc.e b).map (V1.rd [])), .row 1 (els (dC a b j))]⟩ : St)) (0), W_go [0, 1, 2] (by decide) rfl (row3p (by rw [dC]; simp)) (.cons rfl (.cons rfl (.cons rfl (.cons (I_eq (by omega)) (.nil))))), 0, rfl, Nat.zero_le _, rfl⟩ ?_
    rintro m_C _ ⟨j, hk_C, hp_C, rfl⟩
    have hdl := dC_len a b j
    have hel := els_len (dC a b j)
    refine A_seq ?_; refine A_seq ?_; refine A_region ?_; refine M0 (q_moveC rfl rfl rfl) rfl rfl ?_; refine M0 (q_fldp rfl rfl rfl rfl (by decide)) rfl rfl ?_
    refine M0 (q_ld1 rfl rfl rfl rfl rfl) rfl rfl ?_; refine M0 (q_len rfl rfl rfl) rfl rfl ?_; refine M0 (q_lss rfl rfl rfl rfl) rfl rfl ?_; refine L_nil ?_; refine T_n ?_
    refine A_cond rfl (fun h => ?_) (fun h => ?_)
    · have h3 : a.Scores.length + j < b.Scores.length := by have := of_decide_eq_true h; omega
      have hf := I_FormatInt (a.Scores.length + j) (by omega)
      have hfs := fmtN_size (a.Scores.length + j)
      refine A_skip ?_; refine T_n ?_; refine A_seq ?_; refine A_block ?_; refine A_region ?_; refine M0 (q_moveC rfl rfl rfl) rfl rfl ?_; refine M0 (q_moveC rfl rfl rfl) rfl rfl ?_
      refine M0 (q_call0 rfl rfl (hf) rfl) rfl rfl ?_
      refine M0 (q_cat rfl rfl rfl rfl (by simp only [bs_size, cat_size, List.length_cons, List.length_nil, List.length_append]; omega)) rfl rfl ?_
      refine M1 (q_bslice rfl rfl rfl rfl rfl rfl) rfl rfl ?_; refine M_appsb rfl rfl rfl rfl rfl rfl rfl rfl rfl rfl (by omega) (by omega) ?_; refine M0 (q_assignC rfl rfl rfl) rfl rfl ?_
      refine L_nil ?_; refine B_n ?_; refine T_n ?_; refine A_region ?_; refine M0 (q_moveC rfl rfl rfl) rfl rfl ?_; refine M0 (q_add rfl rfl rfl rfl (by omega)) rfl rfl ?_
      refine M0 (q_assignC rfl rfl rfl) rfl rfl ?_; refine L_nil ?_; refine T_n ?_
      refine ⟨b.Scores.length - a.Scores.length - (j + 1), (by omega), (fun (j : Nat) => (⟨_, [(2, .o (.c (.ptr 0 0))), (3, .o (.c (.ptr 1 0))), (5, .o (.c (.ref 2))), (8, I ((a.Scores.length + j : Nat) : Int))], [.box ((Enc.e a).map (V1.rd [])), .box ((Enc.e b).map (V1.rd [])), .row 1 (els (dC a b j))]⟩ : St)) (j + 1), W_go [0, 1, 2] (by decide) rfl (row3p (els_snoc (rng_snoc _))) (.cons rfl (.cons rfl (.cons rfl (.cons (I_eq (by omega)) (.nil))))), j + 1, rfl, by omega, rfl⟩
    have h3 : ¬ a.Scores.length + j < b.Scores.length := by have := of_decide_eq_false h; omega
    have hk3 : j = b.Scores.length - a.Scores.length := by omega
    rw [hk3]
    refine A_exit ?_; refine T_x ?_; refine T_x ?_; refine B_xs ?_; refine T_n ?_; refine A_seq ?_; refine A_seq ?_; refine A_region ?_; refine M0 (q_fldp rfl rfl rfl rfl (by decide)) rfl rfl ?_
    refine M0 (q_ld1 rfl rfl rfl rfl rfl) rfl rfl ?_; refine M0 (q_len rfl rfl rfl) rfl rfl ?_; refine M0 (q_assignC rfl rfl rfl) rfl rfl ?_; refine L_nil ?_; refine T_n ?_; refine A_block ?_
    refine A_loop (fun m__ st => ∃ (q : Nat), b.Bodies.length - a.Bodies.length - q = m__ ∧ (q ≤ b.Bodies.length - a.Bodies.length) ∧ st = (fun (q : Nat) => (⟨_, [(2, .o (.c (.ptr 0 0))), (3, .o (.c (.ptr 1 0))), (5, .o (.c (.ref 2))), (9, I ((a.Bodies.length + q : Nat) : Int))], [.box ((Enc.e a).map (V1.rd [])), .box ((Enc.e b).map (V1.rd [])), .row 1 (els (dD a b q))]⟩ : St)) (q)) ((fun (q : Nat) => b.Bodies.length - a.Bodies.length - q) (0)) ⟨(fun (q : Nat) => (⟨_, [(2, .o (.c (.ptr 0 0))), (3, .o (.c (.ptr 1 0))), (5, .o (.c (.ref 2))), (9, I ((a.Bodies.length + q : Nat) : Int))], [.box ((Enc.e a).map (V1.rd [])), .box ((Enc.e b).map (V1.rd [])), .row 1 (els (dD a b q))]⟩ : St)) (0), W_go [0, 1, 2] (by decide) rfl (row3p (by rw [dD]; simp)) (.cons rfl (.cons rfl (.cons rfl (.cons (I_eq (by omega)) (.nil))))), 0, rfl, Nat.zero_le _, rfl⟩ ?_
    rintro m_D _ ⟨q, hk_D, hp_D, rfl⟩
    have hdl := dD_len a b q
    have hel := els_len (dD a b q)
    refine A_seq ?_; refine A_seq ?_; refine A_region ?_; refine M0 (q_moveC rfl rfl rfl) rfl rfl ?_; refine M0 (q_fldp rfl rfl rfl rfl (by decide)) rfl rfl ?_
    refine M0 (q_ld1 rfl rfl rfl rfl rfl) rfl rfl ?_; refine M0 (q_len rfl rfl rfl) rfl rfl ?_; refine M0 (q_lss rfl rfl rfl rfl) rfl rfl ?_; refine L_nil ?_; refine T_n ?_
    refine A_cond rfl (fun h => ?_) (fun h => ?_)
    · have h3 : a.Bodies.length + q < b.Bodies.length := by have := of_decide_eq_true h; omega
      have hf := I_FormatInt (a.Bodies.length + q) (by omega)
      have hfs := fmtN_size (a.Bodies.length + q)
      refine A_skip ?_; refine T_n ?_; refine A_seq ?_; refine A_block ?_; refine A_region ?_; refine M0 (q_moveC rfl rfl rfl) rfl rfl ?_; refine M0 (q_moveC rfl rfl rfl) rfl rfl ?_
      refine M0 (q_call0 rfl rfl (hf) rfl) rfl rfl ?_
      refine M0 (q_cat rfl rfl rfl rfl (by simp only [bs_size, cat_size, List.length_cons, List.length_nil, List.length_append]; omega)) rfl rfl ?_
      refine M1 (q_bslice rfl rfl rfl rfl rfl rfl) rfl rfl ?_; refine M_appsb rfl rfl rfl rfl rfl rfl rfl rfl rfl rfl (by omega) (by omega) ?_; refine M0 (q_assignC rfl rfl rfl) rfl rfl ?_
      refine L_nil ?_; refine B_n ?_; refine T_n ?_; refine A_region ?_; refine M0 (q_moveC rfl rfl rfl) rfl rfl ?_; refine M0 (q_add rfl rfl rfl rfl (by omega)) rfl rfl ?_
      refine M0 (q_assignC rfl rfl rfl) rfl rfl ?_; refine L_nil ?_; refine T_n ?_
      refine ⟨b.Bodies.length - a.Bodies.length - (q + 1), (by omega), (fun (q : Nat) => (⟨_, [(2, .o (.c (.ptr 0 0))), (3, .o (.c (.ptr 1 0))), (5, .o (.c (.ref 2))), (9, I ((a.Bodies.length + q : Nat) : Int))], [.box ((Enc.e a).map (V1.rd [])), .box ((Enc.e b).map (V1.rd [])), .row 1 (els (dD a b q))]⟩ : St)) (q + 1), W_go [0, 1, 2] (by decide) rfl (row3p (els_snoc (rng_snoc _))) (.cons rfl (.cons rfl (.cons rfl (.cons (I_eq (by omega)) (.nil))))), q + 1, rfl, by omega, rfl⟩
    have h3 : ¬ a.Bodies.length + q < b.Bodies.length := by have := of_decide_eq_false h; omega
    have hk4 : q = b.Bodies.length - a.Bodies.length := by omega
    rw [hk4]
    refine A_exit ?_; refine T_x ?_; refine T_x ?_; refine B_xs ?_; refine T_n ?_; refine A_seq ?_; refine A_region ?_; refine M0 (q_moveC rfl rfl rfl) rfl rfl ?_
    refine M0 (q_assignC rfl rfl rfl) rfl rfl ?_; refine L_nil ?_; refine T_n ?_; refine A_ret ?_; refine F_r ?_
    exact E_tmp rfl rfl (W_end [2] (by decide) rfl rfl rfl)
end Go.Proofs.YtkfnaniegldfaaaDoor
end

section
set_option linter.unusedSimpArgs false
set_option linter.unusedVariables false
set_option maxRecDepth 8000
namespace Go.Proofs.YtkfnaniegldfaaaDoor
open Go.RowKit

theorem part_gd {x : TWorld} (g : Enc.gd x) (s : ByteArray) : Enc.gd (partInts x s) := by
  obtain ⟨gL, gT, gS, gSc, gB⟩ := g
  have one : ∀ n : Int, I64 n → Enc.gd [n] := fun n hn => ⟨by simp, fun y hy => by simp at hy; subst hy; exact hn⟩
  cases hf : (partsOf x).findIdx? (fun t => decide (t = s)) with
  | none => rw [partInts, hf]; exact ⟨by simp, fun y hy => by simp at hy⟩
  | some k =>
    rw [partInts, hf]
    rw [List.findIdx?_eq_some_iff_getElem] at hf
    obtain ⟨hk, h1, h2⟩ := hf
    obtain ⟨hok, hkl⟩ := parts_at hk
    show Enc.gd (partAt x k)
    by_cases k0 : k = 0
    · subst k0; rw [partAt_0]; exact one _ gS
    by_cases k1 : k ≤ x.Scores.length
    · rw [partAt_s k0 (by omega)]; exact one _ (gSc.2 _ (List.getElem_mem _))
    · rw [partAt_b k0 k1 (by omega)]; exact body_gd (gB.2 _ (List.getElem_mem _))
theorem take_yes {l : List ByteArray} {p : ByteArray → Bool} {k : Nat} (o : List ByteArray) (h : k < l.length) (hp : p l[k] = true) : o ++ (l.take (k + 1)).filter p = (o ++ (l.take k).filter p) ++ [l[k]] := by
  rw [List.take_succ_eq_append_getElem h, List.filter_append, ← List.append_assoc]
  simp [hp]
theorem take_no {l : List ByteArray} {p : ByteArray → Bool} {k : Nat} (o : List ByteArray) (h : k < l.length) (hp : p l[k] = false) : o ++ (l.take (k + 1)).filter p = o ++ (l.take k).filter p := by
  rw [List.take_succ_eq_append_getElem h, List.filter_append]
  simp [hp]
theorem row4p {k : Nat} {o o2 o3 : Ob} {a b : List (List T)} (h : a = b) : [o, o2, Ob.row k a, o3] = [o, o2, Ob.row k b, o3] := by rw [h]
noncomputable def oA (a b : TWorld) (k : Nat) : List ByteArray := [] ++ ((partsOf a).take k).filter (fA a b)
noncomputable def oB (a b : TWorld) (k : Nat) : List ByteArray := oA a b (partsOf a).length ++ ((partsOf b).take k).filter (fB a)
theorem oA_len (a b : TWorld) (k : Nat) : (oA a b k).length ≤ 29 := by
  have h1 := List.length_filter_le (fA a b) ((partsOf a).take k)
  have h2 := parts_29 a
  have h3 := List.length_take_le k (partsOf a)
  have h4 : ((partsOf a).take k).length ≤ (partsOf a).length := by rw [List.length_take]; omega
  rw [oA, List.nil_append]; omega
theorem oB_len (a b : TWorld) (k : Nat) : (oB a b k).length ≤ 58 := by
  have h1 := List.length_filter_le (fB a) ((partsOf b).take k)
  have h2 := parts_29 b
  have h3 := oA_len a b (partsOf a).length
  have h4 : ((partsOf b).take k).length ≤ (partsOf b).length := by rw [List.length_take]; omega
  rw [oB, List.length_append]; omega
theorem oB_all {a b : TWorld} (ha : worldOk a = true) (hb : worldOk b = true) : oB a b (partsOf b).length = differ a b := by
  rw [oB, oA, List.take_of_length_le (Nat.le_refl _), List.take_of_length_le (Nat.le_refl _), List.nil_append, differ_eq ha hb]
set_option maxHeartbeats 8000000 in
theorem S_DifferOf (a b : TWorld) (ga : Enc.gd a) (gb : Enc.gd b) : Con Tryd.prog 24 [] [ag a, ag b] [.row 1 (els (differ a b))] (.o (.c (.ref 0))) := by
  have hca := S_WorldOk a ga
  have hcb := S_WorldOk b gb
  cases hoa : worldOk a with
  | false =>
    rw [hoa] at hca
    rw [differ_no (by simp [hoa])]
    refine Con.of Tryd.func24 rfl Tryd.ntmps24 rfl (fun E => ?_)
    refine A_seq ?_; refine A_region ?_; refine M1 (q_boxN rfl rfl rfl rfl) rfl rfl ?_; refine M1 (q_boxN rfl rfl rfl rfl) rfl rfl ?_; refine M0 (q_assignC rfl rfl rfl) rfl rfl ?_
    refine L_nil ?_; refine T_n ?_; refine A_seq ?_; refine A_region ?_; refine M1 (q_bslice0 rfl rfl rfl) rfl rfl ?_; refine M0 (q_assignC rfl rfl rfl) rfl rfl ?_; refine L_nil ?_; refine T_n ?_
    refine A_seq ?_; refine A_seq ?_; refine A_region ?_; refine M0 (q_ldN rfl rfl rfl rfl rfl rfl) rfl rfl ?_; refine M0 (q_call0 rfl rfl (hca) rfl) rfl rfl ?_
    refine M0 (q_not rfl rfl rfl) rfl rfl ?_; refine M0 (q_moveC rfl rfl rfl) rfl rfl ?_; refine M_no rfl rfl rfl rfl rfl rfl ?_; refine M_no rfl rfl rfl rfl rfl rfl ?_
    refine M_no rfl rfl rfl rfl rfl rfl ?_; refine M0 (q_pickT rfl rfl rfl rfl) rfl rfl ?_; refine L_nil ?_; refine T_n ?_; refine A_ifT rfl ?_; refine A_seq ?_; refine A_region ?_
    refine M0 (q_moveC rfl rfl rfl) rfl rfl ?_; refine M0 (q_assignC rfl rfl rfl) rfl rfl ?_; refine L_nil ?_; refine T_n ?_; refine A_ret ?_; refine T_r ?_; refine F_r ?_
    exact E_tmp rfl rfl (W_end [2] (by decide) rfl rfl rfl)
  | true =>
  rw [hoa] at hca
  cases hob : worldOk b with
  | false =>
    rw [hob] at hcb
    rw [differ_no (by simp [hob])]
    refine Con.of Tryd.func24 rfl Tryd.ntmps24 rfl (fun E => ?_)
    refine A_seq ?_; refine A_region ?_; refine M1 (q_boxN rfl rfl rfl rfl) rfl rfl ?_; refine M1 (q_boxN rfl rfl rfl rfl) rfl rfl ?_; refine M0 (q_assignC rfl rfl rfl) rfl rfl ?_
    refine L_nil ?_; refine T_n ?_; refine A_seq ?_; refine A_region ?_; refine M1 (q_bslice0 rfl rfl rfl) rfl rfl ?_; refine M0 (q_assignC rfl rfl rfl) rfl rfl ?_; refine L_nil ?_; refine T_n ?_
    refine A_seq ?_; refine A_seq ?_; refine A_region ?_; refine M0 (q_ldN rfl rfl rfl rfl rfl rfl) rfl rfl ?_; refine M0 (q_call0 rfl rfl (hca) rfl) rfl rfl ?_
    refine M0 (q_not rfl rfl rfl) rfl rfl ?_; refine M0 (q_moveC rfl rfl rfl) rfl rfl ?_; refine M_yes rfl rfl rfl ?_; refine M0 (q_ldN rfl rfl rfl rfl rfl rfl) rfl rfl ?_
    refine M_yes rfl rfl rfl ?_; refine M0 (q_call0 rfl rfl (hcb) rfl) rfl rfl ?_; refine M_yes rfl rfl rfl ?_; refine M0 (q_not rfl rfl rfl) rfl rfl ?_
    refine M0 (q_pickF rfl rfl rfl rfl) rfl rfl ?_; refine L_nil ?_; refine T_n ?_; refine A_ifT rfl ?_; refine A_seq ?_; refine A_region ?_; refine M0 (q_moveC rfl rfl rfl) rfl rfl ?_
    refine M0 (q_assignC rfl rfl rfl) rfl rfl ?_; refine L_nil ?_; refine T_n ?_; refine A_ret ?_; refine T_r ?_; refine F_r ?_
    exact E_tmp rfl rfl (W_end [2] (by decide) rfl rfl rfl)
  | true =>
  rw [hob] at hcb
  rw [← oB_all hoa hob]
  have hpa := S_PartsOf a ga
  have hpb := S_PartsOf b gb
  have la := parts_29 a
  have lb := parts_29 b
  have hea := els_len (partsOf a)
  have heb := els_len (partsOf b)
  refine Con.of Tryd.func24 rfl Tryd.ntmps24 rfl (fun E => ?_)
  refine A_seq ?_; refine A_region ?_; refine M1 (q_boxN rfl rfl rfl rfl) rfl rfl ?_; refine M1 (q_boxN rfl rfl rfl rfl) rfl rfl ?_; refine M0 (q_assignC rfl rfl rfl) rfl rfl ?_
  refine L_nil ?_; refine T_n ?_; refine A_seq ?_; refine A_region ?_; refine M1 (q_bslice0 rfl rfl rfl) rfl rfl ?_; refine M0 (q_assignC rfl rfl rfl) rfl rfl ?_; refine L_nil ?_; refine T_n ?_
  refine A_seq ?_; refine A_seq ?_; refine A_region ?_; refine M0 (q_ldN rfl rfl rfl rfl rfl rfl) rfl rfl ?_; refine M0 (q_call0 rfl rfl (hca) rfl) rfl rfl ?_
  refine M0 (q_not rfl rfl rfl) rfl rfl ?_; refine M0 (q_moveC rfl rfl rfl) rfl rfl ?_; refine M_yes rfl rfl rfl ?_; refine M0 (q_ldN rfl rfl rfl rfl rfl rfl) rfl rfl ?_
  refine M_yes rfl rfl rfl ?_; refine M0 (q_call0 rfl rfl (hcb) rfl) rfl rfl ?_; refine M_yes rfl rfl rfl ?_; refine M0 (q_not rfl rfl rfl) rfl rfl ?_
  refine M0 (q_pickF rfl rfl rfl rfl) rfl rfl ?_; refine L_nil ?_; refine T_n ?_; refine A_ifF rfl ?_; refine A_skip ?_; refine T_n ?_; refine A_seq ?_; refine A_region ?_
  refine M0 (q_ldN rfl rfl rfl rfl rfl rfl) rfl rfl ?_; refine M1 (q_call rfl rfl (hpa) rfl rfl rfl) rfl rfl ?_; refine M0 (q_assignC rfl rfl rfl) rfl rfl ?_; refine L_nil ?_; refine T_n ?_
  refine A_seq ?_; refine A_seq ?_; refine A_region ?_; refine M0 (q_assignC rfl rfl rfl) rfl rfl ?_; refine L_nil ?_; refine T_n ?_; refine A_block ?_
  refine A_loop (fun m st => ∃ k : Nat, k + m = (partsOf a).length ∧ (True) ∧ st = (fun k : Nat => (⟨_, [(2, .o (.c (.ptr 0 0))), (3, .o (.c (.ptr 1 0))), (5, .o (.c (.ref 2))), (6, .o (.c (.ref 3))), (7, I k)], [.box ((Enc.e a).map (V1.rd [])), .box ((Enc.e b).map (V1.rd [])), .row 1 (els (oA a b k)), .row 1 (els (partsOf a))]⟩ : St)) k) ((partsOf a).length) ⟨(fun k : Nat => (⟨_, [(2, .o (.c (.ptr 0 0))), (3, .o (.c (.ptr 1 0))), (5, .o (.c (.ref 2))), (6, .o (.c (.ref 3))), (7, I k)], [.box ((Enc.e a).map (V1.rd [])), .box ((Enc.e b).map (V1.rd [])), .row 1 (els (oA a b k)), .row 1 (els (partsOf a))]⟩ : St)) 0, W_go [0, 1, 2, 3] (by decide) rfl (row4p (by rw [oA]; simp [els])) (.cons rfl (.cons rfl (.cons rfl (.cons rfl (.cons rfl (.nil)))))), 0, by omega, trivial, rfl⟩ ?_
  rintro m_A _ ⟨k, hk_A, hp_A, rfl⟩
  have hol := oA_len a b k
  have hoe := els_len (oA a b k)
  refine A_seq ?_; refine A_seq ?_; refine A_region ?_; refine M0 (q_moveC rfl rfl rfl) rfl rfl ?_; refine M0 (q_moveC rfl rfl rfl) rfl rfl ?_; refine M0 (q_lenr rfl rfl rfl rfl) rfl rfl ?_
  refine M0 (q_lss rfl rfl rfl rfl) rfl rfl ?_; refine L_nil ?_; refine T_n ?_
  refine A_cond rfl (fun h => ?_) (fun h => ?_)
  · have h3 : k < (partsOf a).length := by have := of_decide_eq_true h; omega
    have hat := els_at h3
    have h1 := S_l06Part a (partsOf a)[k] ga
    have h2 := S_l06Part b (partsOf a)[k] gb
    have h5 := S_ints (partInts a (partsOf a)[k]) (partInts b (partsOf a)[k]) (part_gd ga _)
    by_cases he : partInts a (partsOf a)[k] = partInts b (partsOf a)[k]
    · rw [decide_eq_true he] at h5
      refine A_skip ?_; refine T_n ?_; refine A_seq ?_; refine A_block ?_; refine A_seq ?_
      refine A_draw [[], [], [], [1, 2], [1, 2, 3], [0, 1, 2, 3, 4], [], [], [], [7, 8], [7, 8, 9], [0, 1, 2, 3, 4, 5, 6, 7, 8, 9, 10], [0, 1, 2, 3, 4, 5, 6, 7, 8, 9, 10, 11], [0, 1, 2, 3, 4, 5, 6, 7, 8, 9, 10, 11, 12]] [[], [], [], [28, 29], [28, 29, 30], [27, 28, 29, 30, 31], [], [], [], [34, 35], [34, 35, 36], [27, 28, 29, 30, 31, 32, 33, 34, 35, 36, 37], [27, 28, 29, 30, 31, 32, 33, 34, 35, 36, 37, 38], [27, 28, 29, 30, 31, 32, 33, 34, 35, 36, 37, 38, 39]] [[28, 29, 30, 31, 33, 34, 35, 36, 37], [27, 29, 33, 34, 35, 36, 37], [27, 28, 33, 34, 35, 36, 37], [27, 33, 34, 35, 36, 37], [27, 33, 34, 35, 36, 37], [33, 34, 35, 36, 37], [27, 28, 29, 30, 31, 32, 34, 35, 36, 37], [27, 28, 29, 30, 31, 32, 33, 35], [27, 28, 29, 30, 31, 32, 33, 34], [27, 28, 29, 30, 31, 32, 33], [27, 28, 29, 30, 31, 32, 33], [], [], []] rfl ?_
      refine DR.step (q_ldN rfl rfl rfl rfl rfl rfl) rfl rfl ?_; refine DR.step (q_moveC rfl rfl rfl) rfl rfl ?_; refine DR.step (q_moveC rfl rfl rfl) rfl rfl ?_
      refine DR.step (q_ar rfl rfl rfl rfl rfl (by omega) (by omega)) rfl rfl ?_; refine DR.step (q_le1 rfl rfl rfl rfl (by assumption) rfl) rfl rfl ?_
      refine DR.step (q_call rfl rfl (h1) rfl rfl rfl) rfl rfl ?_; refine DR.step (q_ldN rfl rfl rfl rfl rfl rfl) rfl rfl ?_; refine DR.step (q_moveC rfl rfl rfl) rfl rfl ?_
      refine DR.step (q_moveC rfl rfl rfl) rfl rfl ?_; refine DR.step (q_ar rfl rfl rfl rfl rfl (by omega) (by omega)) rfl rfl ?_
      refine DR.step (q_le1 rfl rfl rfl rfl (by assumption) rfl) rfl rfl ?_; refine DR.step (q_call rfl rfl (h2) rfl rfl rfl) rfl rfl ?_; refine DR.step (q_call0 rfl rfl (h5) rfl) rfl rfl ?_
      refine DR.step (q_not rfl rfl rfl) rfl rfl ?_; refine DR.stop (by kernel_rfl) (by kernel_rfl) ?_
      refine L_nil ?_; refine T_n ?_
      refine AWP.pre (st' := (⟨_, [(2, .o (.c (.ptr 0 0))), (3, .o (.c (.ptr 1 0))), (5, .o (.c (.ref 2))), (6, .o (.c (.ref 3))), (7, I k), (40, B false)], [.box ((Enc.e a).map (V1.rd [])), .box ((Enc.e b).map (V1.rd [])), .row 1 (els (oA a b k)), .row 1 (els (partsOf a))]⟩ : St)) ?_ (W_go [0, 1, 2, 3] (by decide) rfl (rfl) (.cons rfl (.cons rfl (.cons rfl (.cons rfl (.cons rfl (.cons rfl (.nil))))))))
      refine A_ifF rfl ?_; refine A_skip ?_; refine B_n ?_; refine T_n ?_; refine A_region ?_; refine M0 (q_moveC rfl rfl rfl) rfl rfl ?_; refine M0 (q_add rfl rfl rfl rfl (by omega)) rfl rfl ?_
      refine M0 (q_assignC rfl rfl rfl) rfl rfl ?_; refine L_nil ?_; refine T_n ?_
      exact ⟨(partsOf a).length - (k + 1), by omega, (fun k : Nat => (⟨_, [(2, .o (.c (.ptr 0 0))), (3, .o (.c (.ptr 1 0))), (5, .o (.c (.ref 2))), (6, .o (.c (.ref 3))), (7, I k)], [.box ((Enc.e a).map (V1.rd [])), .box ((Enc.e b).map (V1.rd [])), .row 1 (els (oA a b k)), .row 1 (els (partsOf a))]⟩ : St)) (k + 1), W_go [0, 1, 2, 3] (by decide) rfl (row4p (congrArg els (take_no [] h3 (by rw [fA, decide_eq_true he]; rfl)))) (.cons rfl (.cons rfl (.cons rfl (.cons rfl (.cons rfl (.nil)))))), k + 1, by omega, trivial, rfl⟩
    · rw [decide_eq_false he] at h5
      refine A_skip ?_; refine T_n ?_; refine A_seq ?_; refine A_block ?_; refine A_seq ?_
      refine A_draw [[], [], [], [1, 2], [1, 2, 3], [0, 1, 2, 3, 4], [], [], [], [7, 8], [7, 8, 9], [0, 1, 2, 3, 4, 5, 6, 7, 8, 9, 10], [0, 1, 2, 3, 4, 5, 6, 7, 8, 9, 10, 11], [0, 1, 2, 3, 4, 5, 6, 7, 8, 9, 10, 11, 12]] [[], [], [], [28, 29], [28, 29, 30], [27, 28, 29, 30, 31], [], [], [], [34, 35], [34, 35, 36], [27, 28, 29, 30, 31, 32, 33, 34, 35, 36, 37], [27, 28, 29, 30, 31, 32, 33, 34, 35, 36, 37, 38], [27, 28, 29, 30, 31, 32, 33, 34, 35, 36, 37, 38, 39]] [[28, 29, 30, 31, 33, 34, 35, 36, 37], [27, 29, 33, 34, 35, 36, 37], [27, 28, 33, 34, 35, 36, 37], [27, 33, 34, 35, 36, 37], [27, 33, 34, 35, 36, 37], [33, 34, 35, 36, 37], [27, 28, 29, 30, 31, 32, 34, 35, 36, 37], [27, 28, 29, 30, 31, 32, 33, 35], [27, 28, 29, 30, 31, 32, 33, 34], [27, 28, 29, 30, 31, 32, 33], [27, 28, 29, 30, 31, 32, 33], [], [], []] rfl ?_
      refine DR.step (q_ldN rfl rfl rfl rfl rfl rfl) rfl rfl ?_; refine DR.step (q_moveC rfl rfl rfl) rfl rfl ?_; refine DR.step (q_moveC rfl rfl rfl) rfl rfl ?_
      refine DR.step (q_ar rfl rfl rfl rfl rfl (by omega) (by omega)) rfl rfl ?_; refine DR.step (q_le1 rfl rfl rfl rfl (by assumption) rfl) rfl rfl ?_
      refine DR.step (q_call rfl rfl (h1) rfl rfl rfl) rfl rfl ?_; refine DR.step (q_ldN rfl rfl rfl rfl rfl rfl) rfl rfl ?_; refine DR.step (q_moveC rfl rfl rfl) rfl rfl ?_
      refine DR.step (q_moveC rfl rfl rfl) rfl rfl ?_; refine DR.step (q_ar rfl rfl rfl rfl rfl (by omega) (by omega)) rfl rfl ?_
      refine DR.step (q_le1 rfl rfl rfl rfl (by assumption) rfl) rfl rfl ?_; refine DR.step (q_call rfl rfl (h2) rfl rfl rfl) rfl rfl ?_; refine DR.step (q_call0 rfl rfl (h5) rfl) rfl rfl ?_
      refine DR.step (q_not rfl rfl rfl) rfl rfl ?_; refine DR.stop (by kernel_rfl) (by kernel_rfl) ?_
      refine L_nil ?_; refine T_n ?_
      refine AWP.pre (st' := (⟨_, [(2, .o (.c (.ptr 0 0))), (3, .o (.c (.ptr 1 0))), (5, .o (.c (.ref 2))), (6, .o (.c (.ref 3))), (7, I k), (40, B true)], [.box ((Enc.e a).map (V1.rd [])), .box ((Enc.e b).map (V1.rd [])), .row 1 (els (oA a b k)), .row 1 (els (partsOf a))]⟩ : St)) ?_ (W_go [0, 1, 2, 3] (by decide) rfl (rfl) (.cons rfl (.cons rfl (.cons rfl (.cons rfl (.cons rfl (.cons rfl (.nil))))))))
      refine A_ifT rfl ?_; refine A_region ?_; refine M0 (q_moveC rfl rfl rfl) rfl rfl ?_; refine M0 (q_moveC rfl rfl rfl) rfl rfl ?_; refine M0 (q_moveC rfl rfl rfl) rfl rfl ?_
      refine M0 (q_ar rfl rfl rfl rfl rfl (by omega) (by omega)) rfl rfl ?_; refine M0 (q_le1 rfl rfl rfl rfl (by assumption) rfl) rfl rfl ?_
      refine M1 (q_bslice rfl rfl rfl rfl rfl rfl) rfl rfl ?_; refine M_appsb rfl rfl rfl rfl rfl rfl rfl rfl rfl rfl (by omega) (by omega) ?_; refine M0 (q_assignC rfl rfl rfl) rfl rfl ?_
      refine L_nil ?_; refine B_n ?_; refine T_n ?_; refine A_region ?_; refine M0 (q_moveC rfl rfl rfl) rfl rfl ?_; refine M0 (q_add rfl rfl rfl rfl (by omega)) rfl rfl ?_
      refine M0 (q_assignC rfl rfl rfl) rfl rfl ?_; refine L_nil ?_; refine T_n ?_
      exact ⟨(partsOf a).length - (k + 1), by omega, (fun k : Nat => (⟨_, [(2, .o (.c (.ptr 0 0))), (3, .o (.c (.ptr 1 0))), (5, .o (.c (.ref 2))), (6, .o (.c (.ref 3))), (7, I k)], [.box ((Enc.e a).map (V1.rd [])), .box ((Enc.e b).map (V1.rd [])), .row 1 (els (oA a b k)), .row 1 (els (partsOf a))]⟩ : St)) (k + 1), W_go [0, 1, 2, 3] (by decide) rfl (row4p (els_snoc (take_yes [] h3 (by rw [fA, decide_eq_false he]; rfl)))) (.cons rfl (.cons rfl (.cons rfl (.cons rfl (.cons rfl (.nil)))))), k + 1, by omega, trivial, rfl⟩
  have h3 : ¬ ((k : Int) < (els (partsOf a)).length) := of_decide_eq_false h
  have hk : k = (partsOf a).length := by omega
  rw [hk]
  refine A_exit ?_; refine T_x ?_; refine T_x ?_; refine B_xs ?_; refine T_n ?_; refine A_seq ?_; refine A_region ?_; refine M0 (q_ldN rfl rfl rfl rfl rfl rfl) rfl rfl ?_
  refine M1 (q_call rfl rfl (hpb) rfl rfl rfl) rfl rfl ?_; refine M0 (q_assignC rfl rfl rfl) rfl rfl ?_; refine L_nil ?_; refine T_n ?_; refine A_seq ?_; refine A_seq ?_; refine A_region ?_
  refine M0 (q_assignC rfl rfl rfl) rfl rfl ?_; refine L_nil ?_; refine T_n ?_; refine A_block ?_
  refine A_loop (fun m st => ∃ j : Nat, j + m = (partsOf b).length ∧ (True) ∧ st = (fun j : Nat => (⟨_, [(2, .o (.c (.ptr 0 0))), (3, .o (.c (.ptr 1 0))), (5, .o (.c (.ref 2))), (6, .o (.c (.ref 3))), (8, I j)], [.box ((Enc.e a).map (V1.rd [])), .box ((Enc.e b).map (V1.rd [])), .row 1 (els (oB a b j)), .row 1 (els (partsOf b))]⟩ : St)) j) ((partsOf b).length) ⟨(fun j : Nat => (⟨_, [(2, .o (.c (.ptr 0 0))), (3, .o (.c (.ptr 1 0))), (5, .o (.c (.ref 2))), (6, .o (.c (.ref 3))), (8, I j)], [.box ((Enc.e a).map (V1.rd [])), .box ((Enc.e b).map (V1.rd [])), .row 1 (els (oB a b j)), .row 1 (els (partsOf b))]⟩ : St)) 0, W_go [0, 1, 2, 4] (by decide) rfl (row4p (by rw [oB]; simp)) (.cons rfl (.cons rfl (.cons rfl (.cons rfl (.cons rfl (.nil)))))), 0, by omega, trivial, rfl⟩ ?_
  rintro m_B _ ⟨j, hk_B, hp_B, rfl⟩
  have hol := oB_len a b j
  have hoe := els_len (oB a b j)
  refine A_seq ?_; refine A_seq ?_; refine A_region ?_; refine M0 (q_moveC rfl rfl rfl) rfl rfl ?_; refine M0 (q_moveC rfl rfl rfl) rfl rfl ?_; refine M0 (q_lenr rfl rfl rfl rfl) rfl rfl ?_
  refine M0 (q_lss rfl rfl rfl rfl) rfl rfl ?_; refine L_nil ?_; refine T_n ?_
  refine A_cond rfl (fun h => ?_) (fun h => ?_)
  · have h3 : j < (partsOf b).length := by have := of_decide_eq_true h; omega
    have hat := els_at h3
    have h1 := S_l06Part a (partsOf b)[j] ga
    have hel := els_len (partInts a (partsOf b)[j])
    by_cases he : partInts a (partsOf b)[j] = []
    · have hb5 : decide (((els (partInts a (partsOf b)[j])).length : Int) = 0) = true := by rw [he]; rfl
      refine A_skip ?_; refine T_n ?_; refine A_seq ?_; refine A_block ?_; refine A_seq ?_
      refine A_draw [[], [], [], [1, 2], [1, 2, 3], [0, 1, 2, 3, 4], [0, 1, 2, 3, 4, 5], [0, 1, 2, 3, 4, 5, 6]] [[], [], [], [57, 58], [57, 58, 59], [56, 57, 58, 59, 60], [56, 57, 58, 59, 60, 61], [56, 57, 58, 59, 60, 61, 62]] [[57, 58, 59, 60], [56, 58], [56, 57], [56], [56], [], [], []] rfl ?_
      refine DR.step (q_ldN rfl rfl rfl rfl rfl rfl) rfl rfl ?_; refine DR.step (q_moveC rfl rfl rfl) rfl rfl ?_; refine DR.step (q_moveC rfl rfl rfl) rfl rfl ?_
      refine DR.step (q_ar rfl rfl rfl rfl rfl (by omega) (by omega)) rfl rfl ?_; refine DR.step (q_le1 rfl rfl rfl rfl (by assumption) rfl) rfl rfl ?_
      refine DR.step (q_call rfl rfl (h1) rfl rfl rfl) rfl rfl ?_; refine DR.step (q_lenr rfl rfl rfl rfl) rfl rfl ?_; refine DR.step (q_eqlK rfl rfl rfl rfl (by assumption)) rfl rfl ?_
      refine DR.stop (by kernel_rfl) (by kernel_rfl) ?_
      refine L_nil ?_; refine T_n ?_
      refine AWP.pre (st' := (⟨_, [(2, .o (.c (.ptr 0 0))), (3, .o (.c (.ptr 1 0))), (5, .o (.c (.ref 2))), (6, .o (.c (.ref 3))), (8, I j), (63, B true)], [.box ((Enc.e a).map (V1.rd [])), .box ((Enc.e b).map (V1.rd [])), .row 1 (els (oB a b j)), .row 1 (els (partsOf b))]⟩ : St)) ?_ (W_go [0, 1, 2, 3] (by decide) rfl (rfl) (.cons rfl (.cons rfl (.cons rfl (.cons rfl (.cons rfl (.cons rfl (.nil))))))))
      refine A_ifT rfl ?_; refine A_region ?_; refine M0 (q_moveC rfl rfl rfl) rfl rfl ?_; refine M0 (q_moveC rfl rfl rfl) rfl rfl ?_; refine M0 (q_moveC rfl rfl rfl) rfl rfl ?_
      refine M0 (q_ar rfl rfl rfl rfl rfl (by omega) (by omega)) rfl rfl ?_; refine M0 (q_le1 rfl rfl rfl rfl (by assumption) rfl) rfl rfl ?_
      refine M1 (q_bslice rfl rfl rfl rfl rfl rfl) rfl rfl ?_; refine M_appsb rfl rfl rfl rfl rfl rfl rfl rfl rfl rfl (by omega) (by omega) ?_; refine M0 (q_assignC rfl rfl rfl) rfl rfl ?_
      refine L_nil ?_; refine B_n ?_; refine T_n ?_; refine A_region ?_; refine M0 (q_moveC rfl rfl rfl) rfl rfl ?_; refine M0 (q_add rfl rfl rfl rfl (by omega)) rfl rfl ?_
      refine M0 (q_assignC rfl rfl rfl) rfl rfl ?_; refine L_nil ?_; refine T_n ?_
      exact ⟨(partsOf b).length - (j + 1), by omega, (fun j : Nat => (⟨_, [(2, .o (.c (.ptr 0 0))), (3, .o (.c (.ptr 1 0))), (5, .o (.c (.ref 2))), (6, .o (.c (.ref 3))), (8, I j)], [.box ((Enc.e a).map (V1.rd [])), .box ((Enc.e b).map (V1.rd [])), .row 1 (els (oB a b j)), .row 1 (els (partsOf b))]⟩ : St)) (j + 1), W_go [0, 1, 2, 3] (by decide) rfl (row4p (els_snoc (take_yes _ h3 (by rw [fB, decide_eq_true he])))) (.cons rfl (.cons rfl (.cons rfl (.cons rfl (.cons rfl (.nil)))))), j + 1, by omega, trivial, rfl⟩
    · have hb5 : decide (((els (partInts a (partsOf b)[j])).length : Int) = 0) = false := decide_eq_false (by
        have := List.length_pos_iff.2 he
        omega)
      refine A_skip ?_; refine T_n ?_; refine A_seq ?_; refine A_block ?_; refine A_seq ?_
      refine A_draw [[], [], [], [1, 2], [1, 2, 3], [0, 1, 2, 3, 4], [0, 1, 2, 3, 4, 5], [0, 1, 2, 3, 4, 5, 6]] [[], [], [], [57, 58], [57, 58, 59], [56, 57, 58, 59, 60], [56, 57, 58, 59, 60, 61], [56, 57, 58, 59, 60, 61, 62]] [[57, 58, 59, 60], [56, 58], [56, 57], [56], [56], [], [], []] rfl ?_
      refine DR.step (q_ldN rfl rfl rfl rfl rfl rfl) rfl rfl ?_; refine DR.step (q_moveC rfl rfl rfl) rfl rfl ?_; refine DR.step (q_moveC rfl rfl rfl) rfl rfl ?_
      refine DR.step (q_ar rfl rfl rfl rfl rfl (by omega) (by omega)) rfl rfl ?_; refine DR.step (q_le1 rfl rfl rfl rfl (by assumption) rfl) rfl rfl ?_
      refine DR.step (q_call rfl rfl (h1) rfl rfl rfl) rfl rfl ?_; refine DR.step (q_lenr rfl rfl rfl rfl) rfl rfl ?_; refine DR.step (q_eqlK rfl rfl rfl rfl (by assumption)) rfl rfl ?_
      refine DR.stop (by kernel_rfl) (by kernel_rfl) ?_
      refine L_nil ?_; refine T_n ?_
      refine AWP.pre (st' := (⟨_, [(2, .o (.c (.ptr 0 0))), (3, .o (.c (.ptr 1 0))), (5, .o (.c (.ref 2))), (6, .o (.c (.ref 3))), (8, I j), (63, B false)], [.box ((Enc.e a).map (V1.rd [])), .box ((Enc.e b).map (V1.rd [])), .row 1 (els (oB a b j)), .row 1 (els (partsOf b))]⟩ : St)) ?_ (W_go [0, 1, 2, 3] (by decide) rfl (rfl) (.cons rfl (.cons rfl (.cons rfl (.cons rfl (.cons rfl (.cons rfl (.nil))))))))
      refine A_ifF rfl ?_; refine A_skip ?_; refine B_n ?_; refine T_n ?_; refine A_region ?_; refine M0 (q_moveC rfl rfl rfl) rfl rfl ?_; refine M0 (q_add rfl rfl rfl rfl (by omega)) rfl rfl ?_
      refine M0 (q_assignC rfl rfl rfl) rfl rfl ?_; refine L_nil ?_; refine T_n ?_
      exact ⟨(partsOf b).length - (j + 1), by omega, (fun j : Nat => (⟨_, [(2, .o (.c (.ptr 0 0))), (3, .o (.c (.ptr 1 0))), (5, .o (.c (.ref 2))), (6, .o (.c (.ref 3))), (8, I j)], [.box ((Enc.e a).map (V1.rd [])), .box ((Enc.e b).map (V1.rd [])), .row 1 (els (oB a b j)), .row 1 (els (partsOf b))]⟩ : St)) (j + 1), W_go [0, 1, 2, 3] (by decide) rfl (row4p (congrArg els (take_no _ h3 (by rw [fB, decide_eq_false he])))) (.cons rfl (.cons rfl (.cons rfl (.cons rfl (.cons rfl (.nil)))))), j + 1, by omega, trivial, rfl⟩
  have h3 : ¬ ((j : Int) < (els (partsOf b)).length) := of_decide_eq_false h
  have hk2 : j = (partsOf b).length := by omega
  rw [hk2]
  refine A_exit ?_; refine T_x ?_; refine T_x ?_; refine B_xs ?_; refine T_n ?_; refine A_seq ?_; refine A_region ?_; refine M0 (q_moveC rfl rfl rfl) rfl rfl ?_
  refine M0 (q_assignC rfl rfl rfl) rfl rfl ?_; refine L_nil ?_; refine T_n ?_; refine A_ret ?_; refine F_r ?_
  exact E_tmp rfl rfl (W_end [2] (by decide) rfl rfl rfl)
end Go.Proofs.YtkfnaniegldfaaaDoor
end

section
set_option linter.unusedSimpArgs false
set_option linter.unusedVariables false
set_option maxRecDepth 8000
namespace Go.Proofs.YtkfnaniegldfaaaDoor
open Go.RowKit

def cntW (x : TWorld) (k : Int) : Int := k + x.Level.Rows.length + x.Scores.length + 9 * x.Bodies.length
def markW (x : TWorld) (k : Int) : TWorld := ⟨⟨markS x.Level.Rows k⟩, x.Tick, x.Seed, markI x.Scores (k + x.Level.Rows.length), markB x.Bodies (k + x.Level.Rows.length + x.Scores.length)⟩
set_option maxHeartbeats 8000000 in
theorem L_markWorld (x : TWorld) (k : Int) (h1 : x.Level.Rows.length ≤ 1048576) (h2 : x.Scores.length ≤ 1048576) (h3 : x.Bodies.length ≤ 1048576) (h0 : 0 < k) (hk : k ≤ 1073741823) : Con Tryd.prog 19 [.row 1 (els x.Level.Rows), .row 1 (els x.Scores), .row 9 (els x.Bodies), .gh 0 (.ag (ownV 0 (Enc.e x)))] [.ag (ownV 0 (Enc.e x)), ai k]
    [.row 1 (els (markW x k).Level.Rows), .row 1 (els (markW x k).Scores), .row 9 (els (markW x k).Bodies), .gh 0 (.ag (ownV 0 (Enc.e x)))] (I (cntW x k)) := by
  refine Con.of Tryd.func19 rfl Tryd.ntmps19 rfl (fun E => ?_)
  refine A_seq ?_; refine A_region ?_; refine M1 (q_boxN rfl rfl rfl rfl) rfl rfl ?_; refine M0 (q_assignC rfl rfl rfl) rfl rfl ?_; refine L_nil ?_; refine T_n ?_; refine A_seq ?_
  refine A_region ?_; refine M0 (q_fldp rfl rfl rfl rfl (by decide)) rfl rfl ?_; refine M0 (q_ldN rfl rfl rfl rfl rfl rfl) rfl rfl ?_; refine M0 (q_moveC rfl rfl rfl) rfl rfl ?_
  refine M_lent (lo := [_]) (gs := [(0, .ag [.ref 0])]) (lo' := [_]) (new := []) [0] [(0, 0, .ref 0)] (L_markLevel x.Level.Rows k h1 h0 (by omega)) rfl rfl rfl rfl rfl rfl rfl rfl rfl rfl rfl rfl rfl rfl rfl rfl rfl ?_
  refine M0 (q_assignC rfl rfl rfl) rfl rfl ?_; refine L_nil ?_; refine T_n ?_; refine A_seq ?_; refine A_region ?_; refine M0 (q_fldp rfl rfl rfl rfl (by decide)) rfl rfl ?_
  refine M0 (q_ld1 rfl rfl rfl rfl rfl) rfl rfl ?_; refine M0 (q_moveC rfl rfl rfl) rfl rfl ?_
  refine M_lent (lo := [_]) (gs := [(0, .c (.ref 0))]) (lo' := [_]) (new := []) [1] [(0, 0, .ref 0)] (L_markIntS x.Scores (k + x.Level.Rows.length) (by omega) (by omega) (by omega)) rfl rfl rfl rfl rfl rfl rfl rfl rfl rfl rfl rfl rfl rfl rfl rfl rfl ?_
  refine M0 (q_assignC rfl rfl rfl) rfl rfl ?_; refine L_nil ?_; refine T_n ?_; refine A_seq ?_; refine A_region ?_; refine M0 (q_fldp rfl rfl rfl rfl (by decide)) rfl rfl ?_
  refine M0 (q_ld1 rfl rfl rfl rfl rfl) rfl rfl ?_; refine M0 (q_moveC rfl rfl rfl) rfl rfl ?_
  refine M_lent (lo := [_]) (gs := [(0, .c (.ref 0))]) (lo' := [_]) (new := []) [2] [(0, 0, .ref 0)] (L_markBodyS x.Bodies (k + x.Level.Rows.length + x.Scores.length) h3 (by omega) (by omega)) rfl rfl rfl rfl rfl rfl rfl rfl rfl rfl rfl rfl rfl rfl rfl rfl rfl ?_
  refine M0 (q_assignC rfl rfl rfl) rfl rfl ?_; refine L_nil ?_; refine T_n ?_; refine A_seq ?_; refine A_region ?_; refine M0 (q_moveC rfl rfl rfl) rfl rfl ?_
  refine M0 (q_assignC rfl rfl rfl) rfl rfl ?_; refine L_nil ?_; refine T_n ?_; refine A_ret ?_; refine F_r ?_
  exact E_tmp rfl rfl (W_end [0, 1, 2, 3] (by decide) rfl rfl rfl)
end Go.Proofs.YtkfnaniegldfaaaDoor
end

section
set_option linter.unusedSimpArgs false
set_option linter.unusedVariables false
namespace Go.Proofs.YtkfnaniegldfaaaDoor
open Go.RowKit

@[reducible] def iv (n : Int) : V1 := .rd [] (.v (.int .i64 n))
theorem parts_mem (x : TWorld) : ∀ s ∈ partsOf x, s.size ≤ 1099511627776 := fun s hs => by
  unfold partsOf at hs
  split at hs
  · rename_i h
    obtain ⟨_, _, _, hn, _, hb, _⟩ := worldOk_spec h
    simp only [partsTo, List.mem_append, List.mem_cons, List.mem_map, List.mem_range] at hs
    rcases hs with (rfl | ⟨k, hk, rfl⟩) | ⟨k, hk, rfl⟩
    · decide
    · have := fmtN_size k
      rw [scoreN, cat_size, bs_size]; simp; omega
    · have := fmtN_size k
      rw [bodyN, cat_size, bs_size]; simp; omega
  · simp at hs
theorem differ_gd (a b : TWorld) : (differ a b).length ≤ 58 ∧ ∀ s ∈ differ a b, s.size ≤ 1099511627776 := by
  by_cases h : worldOk a = true ∧ worldOk b = true
  · rw [← oB_all h.1 h.2]
    refine ⟨oB_len a b _, fun s hs => ?_⟩
    rw [oB, oA, List.nil_append, List.mem_append] at hs
    rcases hs with hs | hs
    · exact parts_mem a s (List.mem_of_mem_take (List.mem_filter.1 hs).1)
    · exact parts_mem b s (List.mem_of_mem_take (List.mem_filter.1 hs).1)
  · rw [differ_no h]; simp
set_option maxHeartbeats 8000000 in
theorem law_DifferOf (a b : TWorld) (ga : Enc.gd a) (gb : Enc.gd b) : Con Tryd.prog 6 [] [ag a, ag b] [] (B true) := by
  have hz1 := sz_World a 1048576 ga (by omega) (by omega)
  by_cases n1 : (1048576 : Int) < Enc.wt a
  · rw [szr_neg n1] at hz1
    refine Con.of Tryd.func6 rfl Tryd.ntmps6 rfl (fun E => ?_)
    refine A_seq ?_; refine A_region ?_; refine M1 (q_boxN rfl rfl rfl rfl) rfl rfl ?_; refine M1 (q_boxN rfl rfl rfl rfl) rfl rfl ?_; refine M0 (q_assignC rfl rfl rfl) rfl rfl ?_
    refine L_nil ?_; refine T_n ?_; refine A_seq ?_; refine A_region ?_; refine M0 (q_assignC rfl rfl rfl) rfl rfl ?_; refine L_nil ?_; refine T_n ?_; refine A_seq ?_; refine A_region ?_
    refine M0 (q_ldN rfl rfl rfl rfl rfl rfl) rfl rfl ?_; refine M0 (q_moveC rfl rfl rfl) rfl rfl ?_; refine M0 (q_call0 rfl rfl (hz1) rfl) rfl rfl ?_
    refine M0 (q_assignC rfl rfl rfl) rfl rfl ?_; refine L_nil ?_; refine T_n ?_; refine A_seq ?_; refine A_seq ?_; refine A_region ?_; refine M0 (q_moveC rfl rfl rfl) rfl rfl ?_
    refine M0 (q_lssK (b := true) rfl rfl rfl rfl (by decide)) rfl rfl ?_; refine L_nil ?_; refine T_n ?_; refine A_ifT rfl ?_; refine A_seq ?_; refine A_region ?_
    refine M0 (q_assignC rfl rfl rfl) rfl rfl ?_; refine L_nil ?_; refine T_n ?_; refine A_ret ?_; refine T_r ?_; refine F_r ?_
    exact E_tmp rfl rfl (W_end [] (by decide) rfl rfl rfl)
  rw [szr_pos (by omega)] at hz1
  have hb1 : decide ((1048576 : Int) - Enc.wt a < 0) = false := decide_eq_false (by omega)
  have hz2 := sz_World b (1048576 - Enc.wt a) gb (by omega) (by omega)
  by_cases n2 : (1048576 : Int) - Enc.wt a < Enc.wt b
  · rw [szr_neg n2] at hz2
    refine Con.of Tryd.func6 rfl Tryd.ntmps6 rfl (fun E => ?_)
    refine A_seq ?_; refine A_region ?_; refine M1 (q_boxN rfl rfl rfl rfl) rfl rfl ?_; refine M1 (q_boxN rfl rfl rfl rfl) rfl rfl ?_; refine M0 (q_assignC rfl rfl rfl) rfl rfl ?_
    refine L_nil ?_; refine T_n ?_; refine A_seq ?_; refine A_region ?_; refine M0 (q_assignC rfl rfl rfl) rfl rfl ?_; refine L_nil ?_; refine T_n ?_; refine A_seq ?_; refine A_region ?_
    refine M0 (q_ldN rfl rfl rfl rfl rfl rfl) rfl rfl ?_; refine M0 (q_moveC rfl rfl rfl) rfl rfl ?_; refine M0 (q_call0 rfl rfl (hz1) rfl) rfl rfl ?_
    refine M0 (q_assignC rfl rfl rfl) rfl rfl ?_; refine L_nil ?_; refine T_n ?_; refine A_seq ?_; refine A_seq ?_; refine A_region ?_; refine M0 (q_moveC rfl rfl rfl) rfl rfl ?_
    refine M0 (q_lssK rfl rfl rfl rfl (by assumption)) rfl rfl ?_; refine L_nil ?_; refine T_n ?_; refine A_ifF rfl ?_; refine A_skip ?_; refine T_n ?_; refine A_seq ?_; refine A_region ?_
    refine M0 (q_ldN rfl rfl rfl rfl rfl rfl) rfl rfl ?_; refine M0 (q_moveC rfl rfl rfl) rfl rfl ?_; refine M0 (q_call0 rfl rfl (hz2) rfl) rfl rfl ?_
    refine M0 (q_assignC rfl rfl rfl) rfl rfl ?_; refine L_nil ?_; refine T_n ?_; refine A_seq ?_; refine A_seq ?_; refine A_region ?_; refine M0 (q_moveC rfl rfl rfl) rfl rfl ?_
    refine M0 (q_lssK (b := true) rfl rfl rfl rfl (by decide)) rfl rfl ?_; refine L_nil ?_; refine T_n ?_; refine A_ifT rfl ?_; refine A_seq ?_; refine A_region ?_
    refine M0 (q_assignC rfl rfl rfl) rfl rfl ?_; refine L_nil ?_; refine T_n ?_; refine A_ret ?_; refine T_r ?_; refine F_r ?_
    exact E_tmp rfl rfl (W_end [] (by decide) rfl rfl rfl)
  rw [szr_pos (by omega)] at hz2
  have hb2 : decide ((1048576 : Int) - Enc.wt a - Enc.wt b < 0) = false := decide_eq_false (by omega)
  have hw_a : Enc.wt a = Enc.wt a.Level + Enc.wt a.Scores + Enc.wt a.Bodies := rfl
  have hL_a : a.Level.Rows.length ≤ 1048576 := by have h2 : Enc.wt a.Level = a.Level.Rows.length + wts a.Level.Rows := rfl; omega
  have hS_a : a.Scores.length ≤ 1048576 := by have h2 : Enc.wt a.Scores = a.Scores.length + wts a.Scores := rfl; omega
  have hB_a : a.Bodies.length ≤ 1048576 := by have h2 : Enc.wt a.Bodies = a.Bodies.length + wts a.Bodies := rfl; omega
  have ht_a := to_World a (by omega)
  have hw_b : Enc.wt b = Enc.wt b.Level + Enc.wt b.Scores + Enc.wt b.Bodies := rfl
  have hL_b : b.Level.Rows.length ≤ 1048576 := by have h2 : Enc.wt b.Level = b.Level.Rows.length + wts b.Level.Rows := rfl; omega
  have hS_b : b.Scores.length ≤ 1048576 := by have h2 : Enc.wt b.Scores = b.Scores.length + wts b.Scores := rfl; omega
  have hB_b : b.Bodies.length ≤ 1048576 := by have h2 : Enc.wt b.Bodies = b.Bodies.length + wts b.Bodies := rfl; omega
  have ht_b := to_World b (by omega)
  have hsp := S_DifferOf a b ga gb
  have hip := I_DifferOf a b ga gb
  obtain ⟨hyl, hyg⟩ := differ_gd a b
  generalize differ a b = y at hsp hip hyl hyg
  have hq1 := eq_StringS y y ⟨by omega, fun s hs => Nat.le_trans (hyg s hs) (by decide)⟩
  have hq_a := eq_World a a ga
  have hq_b := eq_World b b gb
  rw [decide_eq_true rfl] at hq1 hq_a hq_b
  have hm_a := L_markWorld a 1 hL_a hS_a hB_a (by omega) (by omega)
  have hm_b := L_markWorld b (cntW a 1) hL_b hS_b hB_b (by unfold cntW; omega) (by unfold cntW; omega)
  have hm_y := L_markStringS y 1 (by omega) (by omega) (by omega)
  have hh := L_heldStringS y 1 (by omega) (by omega) (by omega)
  have hk1 : decide (cntW b (cntW a 1) < 0) = false := decide_eq_false (by unfold cntW; omega)
  have hk2 : decide ((1 : Int) + y.length < 0) = false := decide_eq_false (by omega)
  refine Con.of Tryd.func6 rfl Tryd.ntmps6 rfl (fun E => ?_)
  refine A_seq ?_; refine A_region ?_; refine M1 (q_boxN rfl rfl rfl rfl) rfl rfl ?_; refine M1 (q_boxN rfl rfl rfl rfl) rfl rfl ?_; refine M0 (q_assignC rfl rfl rfl) rfl rfl ?_
  refine L_nil ?_; refine T_n ?_; refine A_seq ?_; refine A_region ?_; refine M0 (q_assignC rfl rfl rfl) rfl rfl ?_; refine L_nil ?_; refine T_n ?_; refine A_seq ?_; refine A_region ?_
  refine M0 (q_ldN rfl rfl rfl rfl rfl rfl) rfl rfl ?_; refine M0 (q_moveC rfl rfl rfl) rfl rfl ?_; refine M0 (q_call0 rfl rfl (hz1) rfl) rfl rfl ?_
  refine M0 (q_assignC rfl rfl rfl) rfl rfl ?_; refine L_nil ?_; refine T_n ?_; refine A_seq ?_; refine A_seq ?_; refine A_region ?_; refine M0 (q_moveC rfl rfl rfl) rfl rfl ?_
  refine M0 (q_lssK rfl rfl rfl rfl (by assumption)) rfl rfl ?_; refine L_nil ?_; refine T_n ?_; refine A_ifF rfl ?_; refine A_skip ?_; refine T_n ?_; refine A_seq ?_; refine A_region ?_
  refine M0 (q_ldN rfl rfl rfl rfl rfl rfl) rfl rfl ?_; refine M0 (q_moveC rfl rfl rfl) rfl rfl ?_; refine M0 (q_call0 rfl rfl (hz2) rfl) rfl rfl ?_
  refine M0 (q_assignC rfl rfl rfl) rfl rfl ?_; refine L_nil ?_; refine T_n ?_; refine A_seq ?_; refine A_seq ?_; refine A_region ?_; refine M0 (q_moveC rfl rfl rfl) rfl rfl ?_
  refine M0 (q_lssK rfl rfl rfl rfl (by assumption)) rfl rfl ?_; refine L_nil ?_; refine T_n ?_; refine A_ifF rfl ?_; refine A_skip ?_; refine T_n ?_; refine A_seq ?_
  refine AWP.pre (st' := (⟨_, [(2, .o (.c (.ptr 0 0))), (3, .o (.c (.ptr 1 0)))], [.box ((Enc.e a).map (V1.rd [])), .box ((Enc.e b).map (V1.rd []))]⟩ : St)) ?_ (W_go [0, 1] (by decide) rfl (rfl) (.cons rfl (.cons rfl (.nil))))
  refine A_draw [[], [0], [], [0, 1, 2], [0, 1, 2, 3], [0, 1, 2, 3, 4]] [[], [24], [], [24, 25, 26], [24, 25, 26, 27], [24, 25, 26, 27, 28]] [[26], [26], [24, 25], [], [], []] rfl ?_
  refine DR.step (q_ldN rfl rfl rfl rfl rfl rfl) rfl rfl ?_; refine DR.step (q_call rfl rfl (ht_a) rfl rfl rfl) rfl rfl ?_; refine DR.step (q_ldN rfl rfl rfl rfl rfl rfl) rfl rfl ?_
  refine DR.step (q_call rfl rfl (ht_b) rfl rfl rfl) rfl rfl ?_; refine DR.step (q_call rfl rfl (hsp) rfl rfl rfl) rfl rfl ?_; refine DR.step (q_assignC rfl rfl rfl) rfl rfl ?_
  refine DR.stop (by kernel_rfl) (by kernel_rfl) ?_
  refine L_nil ?_; refine T_n ?_
  refine AWP.pre (st' := (⟨_, [(2, .o (.c (.ptr 0 0))), (3, .o (.c (.ptr 1 0))), (6, .o (.c (.ref 2)))], [.box ((Enc.e a).map (V1.rd [])), .box ((Enc.e b).map (V1.rd [])), .row 1 (els y)]⟩ : St)) ?_ (W_go [0, 1, 8] (by decide) rfl (rfl) (.cons rfl (.cons rfl (.cons rfl (.nil)))))
  refine A_seq ?_; refine A_region ?_; refine M0 (q_ldN rfl rfl rfl rfl rfl rfl) rfl rfl ?_; refine M1 (q_call rfl rfl (ht_a) rfl rfl rfl) rfl rfl ?_
  refine M1 (q_alloc rfl rfl rfl) rfl rfl ?_; refine M_stN rfl rfl rfl rfl rfl rfl rfl rfl rfl ?_; refine L_nil ?_; refine T_n ?_; refine A_seq ?_; refine A_region ?_
  refine M0 (q_ldN rfl rfl rfl rfl rfl rfl) rfl rfl ?_; refine M1 (q_call rfl rfl (ht_b) rfl rfl rfl) rfl rfl ?_; refine M1 (q_alloc rfl rfl rfl) rfl rfl ?_
  refine M_stN rfl rfl rfl rfl rfl rfl rfl rfl rfl ?_; refine L_nil ?_; refine T_n ?_; refine A_seq ?_; refine A_region ?_; refine M0 (q_ldN rfl rfl rfl rfl rfl rfl) rfl rfl ?_
  refine M0 (q_ldN rfl rfl rfl rfl rfl rfl) rfl rfl ?_; refine M1 (q_call rfl rfl (hip) rfl rfl rfl) rfl rfl ?_; refine M0 (q_assignC rfl rfl rfl) rfl rfl ?_; refine L_nil ?_; refine T_n ?_
  refine A_seq ?_; refine A_seq ?_; refine A_region ?_; refine M0 (q_moveC rfl rfl rfl) rfl rfl ?_; refine M0 (q_moveC rfl rfl rfl) rfl rfl ?_; refine M0 (q_call0 rfl rfl (hq1) rfl) rfl rfl ?_
  refine M0 (q_not rfl rfl rfl) rfl rfl ?_; refine L_nil ?_; refine T_n ?_; refine A_ifF rfl ?_; refine A_skip ?_; refine T_n ?_; refine A_seq ?_; refine A_seq ?_
  refine AWP.pre (st' := (⟨_, [(2, .o (.c (.ptr 0 0))), (3, .o (.c (.ptr 1 0))), (6, .o (.c (.ref 2))), (7, .o (.c (.ptr 6 0))), (8, .o (.c (.ptr 10 0))), (9, .o (.c (.ref 11)))], [.box ((Enc.e a).map (V1.rd [])), .box ((Enc.e b).map (V1.rd [])), .row 1 (els y), .row 1 (els a.Level.Rows), .row 1 (els a.Scores), .row 9 (els a.Bodies), .box [.ref 3, iv a.Tick, iv a.Seed, .ref 4, .ref 5], .row 1 (els b.Level.Rows), .row 1 (els b.Scores), .row 9 (els b.Bodies), .box [.ref 7, iv b.Tick, iv b.Seed, .ref 8, .ref 9], .row 1 (els y)]⟩ : St)) ?_ (W_go [0, 1, 2, 3, 4, 5, 6, 7, 8, 9, 10, 11] (by decide) rfl (rfl) (.cons rfl (.cons rfl (.cons rfl (.cons rfl (.cons rfl (.cons rfl (.nil))))))))
  refine A_draw [[], [], [1], [0, 1, 2], [0, 1, 2, 3]] [[], [], [41], [40, 41, 42], [40, 41, 42, 43]] [[41, 42], [40], [40], [], []] rfl ?_
  refine DR.step (q_ldN rfl rfl rfl rfl rfl rfl) rfl rfl ?_; refine DR.step (q_ldN rfl rfl rfl rfl rfl rfl) rfl rfl ?_; refine DR.step (q_call rfl rfl (ht_a) rfl rfl rfl) rfl rfl ?_
  refine DR.step (q_call0 rfl rfl (hq_a) rfl) rfl rfl ?_; refine DR.step (q_not rfl rfl rfl) rfl rfl ?_; refine DR.stop (by kernel_rfl) (by kernel_rfl) ?_
  refine L_nil ?_; refine T_n ?_
  refine AWP.pre (st' := (⟨_, [(2, .o (.c (.ptr 0 0))), (3, .o (.c (.ptr 1 0))), (6, .o (.c (.ref 2))), (7, .o (.c (.ptr 6 0))), (8, .o (.c (.ptr 10 0))), (9, .o (.c (.ref 11))), (44, B false)], [.box ((Enc.e a).map (V1.rd [])), .box ((Enc.e b).map (V1.rd [])), .row 1 (els y), .row 1 (els a.Level.Rows), .row 1 (els a.Scores), .row 9 (els a.Bodies), .box [.ref 3, iv a.Tick, iv a.Seed, .ref 4, .ref 5], .row 1 (els b.Level.Rows), .row 1 (els b.Scores), .row 9 (els b.Bodies), .box [.ref 7, iv b.Tick, iv b.Seed, .ref 8, .ref 9], .row 1 (els y)]⟩ : St)) ?_ (W_go [0, 1, 2, 3, 4, 5, 6, 7, 8, 9, 10, 11] (by decide) rfl (rfl) (.cons rfl (.cons rfl (.cons rfl (.cons rfl (.cons rfl (.cons rfl (.cons rfl (.nil)))))))))
  refine A_ifF rfl ?_; refine A_skip ?_; refine T_n ?_; refine A_seq ?_; refine A_seq ?_
  refine AWP.pre (st' := (⟨_, [(2, .o (.c (.ptr 0 0))), (3, .o (.c (.ptr 1 0))), (6, .o (.c (.ref 2))), (7, .o (.c (.ptr 6 0))), (8, .o (.c (.ptr 10 0))), (9, .o (.c (.ref 11)))], [.box ((Enc.e a).map (V1.rd [])), .box ((Enc.e b).map (V1.rd [])), .row 1 (els y), .row 1 (els a.Level.Rows), .row 1 (els a.Scores), .row 9 (els a.Bodies), .box [.ref 3, iv a.Tick, iv a.Seed, .ref 4, .ref 5], .row 1 (els b.Level.Rows), .row 1 (els b.Scores), .row 9 (els b.Bodies), .box [.ref 7, iv b.Tick, iv b.Seed, .ref 8, .ref 9], .row 1 (els y)]⟩ : St)) ?_ (W_go [0, 1, 2, 3, 4, 5, 6, 7, 8, 9, 10, 11] (by decide) rfl (rfl) (.cons rfl (.cons rfl (.cons rfl (.cons rfl (.cons rfl (.cons rfl (.nil))))))))
  refine A_draw [[], [], [1], [0, 1, 2], [0, 1, 2, 3]] [[], [], [46], [45, 46, 47], [45, 46, 47, 48]] [[46, 47], [45], [45], [], []] rfl ?_
  refine DR.step (q_ldN rfl rfl rfl rfl rfl rfl) rfl rfl ?_; refine DR.step (q_ldN rfl rfl rfl rfl rfl rfl) rfl rfl ?_; refine DR.step (q_call rfl rfl (ht_b) rfl rfl rfl) rfl rfl ?_
  refine DR.step (q_call0 rfl rfl (hq_b) rfl) rfl rfl ?_; refine DR.step (q_not rfl rfl rfl) rfl rfl ?_; refine DR.stop (by kernel_rfl) (by kernel_rfl) ?_
  refine L_nil ?_; refine T_n ?_
  refine AWP.pre (st' := (⟨_, [(2, .o (.c (.ptr 0 0))), (3, .o (.c (.ptr 1 0))), (6, .o (.c (.ref 2))), (7, .o (.c (.ptr 6 0))), (8, .o (.c (.ptr 10 0))), (9, .o (.c (.ref 11))), (49, B false)], [.box ((Enc.e a).map (V1.rd [])), .box ((Enc.e b).map (V1.rd [])), .row 1 (els y), .row 1 (els a.Level.Rows), .row 1 (els a.Scores), .row 9 (els a.Bodies), .box [.ref 3, iv a.Tick, iv a.Seed, .ref 4, .ref 5], .row 1 (els b.Level.Rows), .row 1 (els b.Scores), .row 9 (els b.Bodies), .box [.ref 7, iv b.Tick, iv b.Seed, .ref 8, .ref 9], .row 1 (els y)]⟩ : St)) ?_ (W_go [0, 1, 2, 3, 4, 5, 6, 7, 8, 9, 10, 11] (by decide) rfl (rfl) (.cons rfl (.cons rfl (.cons rfl (.cons rfl (.cons rfl (.cons rfl (.cons rfl (.nil)))))))))
  refine A_ifF rfl ?_; refine A_skip ?_; refine T_n ?_; refine A_seq ?_; refine A_region ?_; refine M0 (q_assignC rfl rfl rfl) rfl rfl ?_; refine L_nil ?_; refine T_n ?_; refine A_seq ?_
  refine A_region ?_; refine M0 (q_ldN rfl rfl rfl rfl rfl rfl) rfl rfl ?_; refine M0 (q_moveC rfl rfl rfl) rfl rfl ?_
  refine M_lent (lo := [_, _, _]) (gs := [(0, .ag [.ref 0, iv a.Tick, iv a.Seed, .ref 1, .ref 2])]) (lo' := [_, _, _]) (new := []) [3, 4, 5] [(0, 0, .ref 0), (0, 3, .ref 1), (0, 4, .ref 2)] (hm_a) rfl rfl rfl rfl rfl rfl rfl rfl rfl rfl rfl rfl rfl rfl rfl rfl rfl ?_
  refine M0 (q_assignC rfl rfl rfl) rfl rfl ?_; refine L_nil ?_; refine T_n ?_; refine A_seq ?_; refine A_region ?_; refine M0 (q_ldN rfl rfl rfl rfl rfl rfl) rfl rfl ?_
  refine M0 (q_moveC rfl rfl rfl) rfl rfl ?_
  refine AL.weak (st' := (⟨_, [(2, .o (.c (.ptr 0 0))), (3, .o (.c (.ptr 1 0))), (6, .o (.c (.ref 2))), (9, .o (.c (.ref 6))), (53, .o (.ag [.ref 3, iv b.Tick, iv b.Seed, .ref 4, .ref 5])), (54, I (cntW a 1))], [.box ((Enc.e a).map (V1.rd [])), .box ((Enc.e b).map (V1.rd [])), .row 1 (els y), .row 1 (els b.Level.Rows), .row 1 (els b.Scores), .row 9 (els b.Bodies), .row 1 (els y)]⟩ : St)) (W_go [0, 1, 2, 7, 8, 9, 11] (by decide) rfl (rfl) (.cons rfl (.cons rfl (.cons rfl (.cons rfl (.cons rfl (.cons rfl (.nil)))))))) ?_
  refine M_lent (lo := [_, _, _]) (gs := [(0, .ag [.ref 0, iv b.Tick, iv b.Seed, .ref 1, .ref 2])]) (lo' := [_, _, _]) (new := []) [3, 4, 5] [(0, 0, .ref 0), (0, 3, .ref 1), (0, 4, .ref 2)] (hm_b) rfl rfl rfl rfl rfl rfl rfl rfl rfl rfl rfl rfl rfl rfl rfl rfl rfl ?_
  refine M0 (q_assignC rfl rfl rfl) rfl rfl ?_; refine L_nil ?_; refine T_n ?_; refine A_seq ?_; refine A_seq ?_; refine A_region ?_; refine M0 (q_moveC rfl rfl rfl) rfl rfl ?_
  refine M0 (q_lssK rfl rfl rfl rfl (by assumption)) rfl rfl ?_; refine M0 (q_moveC rfl rfl rfl) rfl rfl ?_; refine M_yes rfl rfl rfl ?_; refine M0 (q_moveC rfl rfl rfl) rfl rfl ?_
  refine M_yes rfl rfl rfl ?_; refine M0 (q_moveC rfl rfl rfl) rfl rfl ?_; refine M_yes rfl rfl rfl ?_
  refine AL.weak (st' := (⟨_, [(2, .o (.c (.ptr 0 0))), (3, .o (.c (.ptr 1 0))), (6, .o (.c (.ref 2))), (9, .o (.c (.ref 3))), (58, B false), (59, .o (.c (.ref 3))), (60, .o (.c (.ref 2)))], [.box ((Enc.e a).map (V1.rd [])), .box ((Enc.e b).map (V1.rd [])), .row 1 (els y), .row 1 (els y)]⟩ : St)) (W_go [0, 1, 2, 6] (by decide) rfl (rfl) (.cons rfl (.cons rfl (.cons rfl (.cons rfl (.cons rfl (.cons rfl (.cons rfl (.nil))))))))) ?_
  refine M0 (q_call0 rfl rfl (hq1) rfl) rfl rfl ?_; refine M_yes rfl rfl rfl ?_; refine M0 (q_not rfl rfl rfl) rfl rfl ?_; refine M0 (q_pickF rfl rfl rfl rfl) rfl rfl ?_; refine L_nil ?_
  refine T_n ?_; refine A_ifF rfl ?_; refine A_skip ?_; refine T_n ?_; refine A_seq ?_; refine A_region ?_; refine M0 (q_assignC rfl rfl rfl) rfl rfl ?_; refine L_nil ?_; refine T_n ?_
  refine A_seq ?_; refine A_region ?_; refine M0 (q_moveC rfl rfl rfl) rfl rfl ?_; refine M0 (q_moveC rfl rfl rfl) rfl rfl ?_
  refine AL.weak (st' := (⟨_, [(2, .o (.c (.ptr 0 0))), (3, .o (.c (.ptr 1 0))), (6, .o (.c (.ref 2))), (9, .o (.c (.ref 3))), (64, .o (.c (.ref 3))), (65, I 1)], [.box ((Enc.e a).map (V1.rd [])), .box ((Enc.e b).map (V1.rd [])), .row 1 (els y), .row 1 (els y)]⟩ : St)) (W_go [0, 1, 2, 3] (by decide) rfl (rfl) (.cons rfl (.cons rfl (.cons rfl (.cons rfl (.cons rfl (.cons rfl (.nil)))))))) ?_
  refine M_lent (lo := [_]) (gs := [(0, .c (.ref 0))]) (lo' := [_]) (new := []) [3] [(0, 0, .ref 0)] (hm_y) rfl rfl rfl rfl rfl rfl rfl rfl rfl rfl rfl rfl rfl rfl rfl rfl rfl ?_
  refine M0 (q_assignC rfl rfl rfl) rfl rfl ?_; refine L_nil ?_; refine T_n ?_; refine A_seq ?_; refine A_region ?_; refine M0 (q_assignC rfl rfl rfl) rfl rfl ?_; refine L_nil ?_; refine T_n ?_
  refine A_seq ?_; refine A_region ?_; refine M0 (q_moveC rfl rfl rfl) rfl rfl ?_; refine M0 (q_moveC rfl rfl rfl) rfl rfl ?_
  refine AL.weak (st' := (⟨_, [(2, .o (.c (.ptr 0 0))), (3, .o (.c (.ptr 1 0))), (6, .o (.c (.ref 2))), (9, .o (.c (.ref 3))), (11, I (1 + y.length)), (67, .o (.c (.ref 3))), (68, I 1)], [.box ((Enc.e a).map (V1.rd [])), .box ((Enc.e b).map (V1.rd [])), .row 1 (els y), .row 1 (els (markS y 1))]⟩ : St)) (W_go [0, 1, 2, 3] (by decide) rfl (rfl) (.cons rfl (.cons rfl (.cons rfl (.cons rfl (.cons rfl (.cons rfl (.cons rfl (.nil))))))))) ?_
  refine M0 (q_call0 rfl rfl (hh) rfl) rfl rfl ?_; refine M0 (q_assignC rfl rfl rfl) rfl rfl ?_; refine L_nil ?_; refine T_n ?_; refine A_seq ?_; refine A_seq ?_; refine A_region ?_
  refine M0 (q_moveC rfl rfl rfl) rfl rfl ?_; refine M0 (q_lssK rfl rfl rfl rfl (by assumption)) rfl rfl ?_; refine L_nil ?_; refine T_n ?_; refine A_ifF rfl ?_; refine A_skip ?_; refine T_n ?_
  refine A_seq ?_; refine A_seq ?_; refine A_region ?_; refine M0 (q_moveC rfl rfl rfl) rfl rfl ?_; refine M0 (q_moveC rfl rfl rfl) rfl rfl ?_; refine M0 (q_neqR rfl rfl rfl rfl) rfl rfl ?_
  refine L_nil ?_; refine T_n ?_; refine A_ifF rfl ?_; refine A_skip ?_; refine T_n ?_; refine A_seq ?_
  refine AWP.pre (st' := (⟨_, [(2, .o (.c (.ptr 0 0))), (3, .o (.c (.ptr 1 0))), (6, .o (.c (.ref 2))), (9, .o (.c (.ref 3))), (11, I (1 + y.length))], [.box ((Enc.e a).map (V1.rd [])), .box ((Enc.e b).map (V1.rd [])), .row 1 (els y), .row 1 (els (markS y 1))]⟩ : St)) ?_ (W_go [0, 1, 2, 3] (by decide) rfl (rfl) (.cons rfl (.cons rfl (.cons rfl (.cons rfl (.cons rfl (.nil)))))))
  refine A_draw [[], [0], [], [0, 1, 2], [0, 1, 2, 3], [0, 1, 2, 3, 4]] [[], [75], [], [75, 76, 77], [75, 76, 77, 78], [75, 76, 77, 78, 79]] [[77], [77], [75, 76], [], [], []] rfl ?_
  refine DR.step (q_ldN rfl rfl rfl rfl rfl rfl) rfl rfl ?_; refine DR.step (q_call rfl rfl (ht_a) rfl rfl rfl) rfl rfl ?_; refine DR.step (q_ldN rfl rfl rfl rfl rfl rfl) rfl rfl ?_
  refine DR.step (q_call rfl rfl (ht_b) rfl rfl rfl) rfl rfl ?_; refine DR.step (q_call rfl rfl (hip) rfl rfl rfl) rfl rfl ?_; refine DR.step (q_assignC rfl rfl rfl) rfl rfl ?_
  refine DR.stop (by kernel_rfl) (by kernel_rfl) ?_
  refine L_nil ?_; refine T_n ?_
  refine AWP.pre (st' := (⟨_, [(6, .o (.c (.ref 0))), (9, .o (.c (.ref 1))), (11, I (1 + y.length)), (13, .o (.c (.ref 2)))], [.row 1 (els y), .row 1 (els (markS y 1)), .row 1 (els y)]⟩ : St)) ?_ (W_go [2, 3, 10] (by decide) rfl (rfl) (.cons rfl (.cons rfl (.cons rfl (.cons rfl (.nil))))))
  refine A_seq ?_; refine A_seq ?_; refine A_region ?_; refine M0 (q_moveC rfl rfl rfl) rfl rfl ?_; refine M0 (q_moveC rfl rfl rfl) rfl rfl ?_; refine M0 (q_call0 rfl rfl (hq1) rfl) rfl rfl ?_
  refine M0 (q_not rfl rfl rfl) rfl rfl ?_; refine L_nil ?_; refine T_n ?_; refine A_ifF rfl ?_; refine A_skip ?_; refine T_n ?_; refine A_seq ?_; refine A_region ?_
  refine M0 (q_assignC rfl rfl rfl) rfl rfl ?_; refine L_nil ?_; refine T_n ?_; refine A_seq ?_; refine A_region ?_; refine M0 (q_moveC rfl rfl rfl) rfl rfl ?_
  refine M0 (q_moveC rfl rfl rfl) rfl rfl ?_
  refine AL.weak (st' := (⟨_, [(11, I (1 + y.length)), (84, .o (.c (.ref 0))), (85, I 1)], [.row 1 (els (markS y 1))]⟩ : St)) (W_go [1] (by decide) rfl (rfl) (.cons rfl (.cons rfl (.cons rfl (.nil))))) ?_
  refine M0 (q_call0 rfl rfl (hh) rfl) rfl rfl ?_; refine M0 (q_assignC rfl rfl rfl) rfl rfl ?_; refine L_nil ?_; refine T_n ?_; refine A_seq ?_; refine A_seq ?_; refine A_region ?_
  refine M0 (q_moveC rfl rfl rfl) rfl rfl ?_; refine M0 (q_lssK rfl rfl rfl rfl (by assumption)) rfl rfl ?_; refine L_nil ?_; refine T_n ?_; refine A_ifF rfl ?_; refine A_skip ?_; refine T_n ?_
  refine A_seq ?_; refine A_seq ?_; refine A_region ?_; refine M0 (q_moveC rfl rfl rfl) rfl rfl ?_; refine M0 (q_moveC rfl rfl rfl) rfl rfl ?_; refine M0 (q_neqR rfl rfl rfl rfl) rfl rfl ?_
  refine L_nil ?_; refine T_n ?_; refine A_ifF rfl ?_; refine A_skip ?_; refine T_n ?_; refine A_seq ?_; refine A_region ?_; refine M0 (q_assignC rfl rfl rfl) rfl rfl ?_; refine L_nil ?_
  refine T_n ?_; refine A_ret ?_; refine F_r ?_
  exact E_tmp rfl rfl (W_end [] (by decide) rfl rfl rfl)
end Go.Proofs.YtkfnaniegldfaaaDoor
end

section
set_option linter.unusedVariables false
namespace Go.Proofs.YtkfnaniegldfaaaDoor
open Go.ChangeShapes Go.WideShapes Go.ChangeAt Go.RowKit

def RL (w : World) (ts : List T) (cs : List Value) : Prop := ∀ (j : Nat) (t : T) (u : Value), ts[j]? = some t → cs[j]? = some u → RO w (fun _ => True) t u
theorem RL.nil {w : World} {cs : List Value} : RL w [] cs := fun _ _ _ h => by simp at h
theorem RL.app {w : World} {ts us : List T} {cs : List Value} {o n : Nat} (h1 : RL w ts ((cs.drop o).take n)) (hn : ts.length = n) (h2 : RL w us (cs.drop (o + n))) : RL w (ts ++ us) (cs.drop o) := fun j t u h3 h4 => by
  rcases Nat.lt_or_ge j ts.length with hj | hj
  · rw [List.getElem?_append_left hj] at h3
    exact h1 j t u h3 (by rw [List.getElem?_take, if_pos (by omega)]; exact h4)
  · rw [List.getElem?_append_right hj] at h3
    refine h2 (j - ts.length) t u h3 ?_
    rw [List.getElem?_drop] at h4 ⊢
    rw [← h4]
    congr 1
    omega
theorem reads_fld {P : Program} {t tt : TypeId} {fs : Array Field} {f : Field} {α : Type} [Enc α] {H : Type} {enc : TypeId × Value → H} {w : World} {spare : Nat → Bool} {held : Bool} {fuel : Nat} {cs : List Value} {x : DataW H × List MemPlace}
    (ht : P.underlying t = some (.struct fs)) (h : DataW.trod enc P w 0 spare held fuel t cs = some x) (i : Nat) (hf : fs[i]? = some f) (hty : f.type = tt) [hα : RdOf P tt α] {o : Nat} (ho : f.offset = o) :
    ∃ y : α, Enc.gd y ∧ RL w (Enc.e y) ((cs.drop o).take (Enc.k α)) := by
  obtain ⟨xs, n, _, _, hl, hlen, hfs⟩ := DataW.trod_struct ht h
  have h1 := hfs i f hf
  have hi : i < fs.size := by
    rcases Nat.lt_or_ge i fs.size with h2 | h2
    · exact h2
    · rw [Array.getElem?_eq_none h2] at hf; cases hf
  rw [List.getElem?_eq_getElem (by omega), hty, ho, hα.size] at h1
  obtain ⟨y, hg, hr⟩ := hα.of h1
  exact ⟨y, hg, hr.2⟩
theorem reads_len {P : Program} {t : TypeId} {fs : Array Field} {H : Type} {enc : TypeId × Value → H} {w : World} {spare : Nat → Bool} {held : Bool} {fuel : Nat} {cs : List Value} {x : DataW H × List MemPlace}
    (ht : P.underlying t = some (.struct fs)) (h : DataW.trod enc P w 0 spare held fuel t cs = some x) : cs.length = P.cellsOf t := by
  obtain ⟨xs, n, _, _, hl, _⟩ := DataW.trod_struct ht h
  exact hl

instance : RdOf Tryd.prog 3 Int := rdOf_int Tryd.underlying3 (by kernel_rfl)
instance : RdOf Tryd.prog 9 ByteArray := rdOf_string Tryd.underlying9 (by kernel_rfl)
instance : RdOf Tryd.prog 32 (List Int) := rdOf_slice Tryd.underlying32 (by kernel_rfl)
instance : RdOf Tryd.prog 22 (List ByteArray) := rdOf_slice Tryd.underlying22 (by kernel_rfl)
instance : RdOf Tryd.prog 52 (List (List Int)) := rdOf_slice Tryd.underlying52 (by kernel_rfl)
instance : RdOf Tryd.prog 31 TLevel where
  size := by kernel_rfl
  of {H enc w spare held fuel cs x} h := by
    obtain ⟨y0, g0, r0⟩ := reads_fld (α := (List ByteArray)) (tt := 22) Tryd.underlying31 h 0 rfl rfl rfl
    refine ⟨⟨y0⟩, g0, ?_, ?_⟩
    · rw [reads_len Tryd.underlying31 h]; kernel_rfl
    · exact (RL.app (o := 0) (n := 1) r0 rfl (RL.nil) : RL w _ (cs.drop 0))
end Go.Proofs.YtkfnaniegldfaaaDoor
end

section
set_option linter.unusedVariables false
namespace Go.Proofs.YtkfnaniegldfaaaDoor
open Go.ChangeShapes Go.WideShapes Go.ChangeAt Go.RowKit

instance : RdOf Tryd.prog 105 TBody where
  size := by kernel_rfl
  of {H enc w spare held fuel cs x} h := by
    obtain ⟨y0, g0, r0⟩ := reads_fld (α := Int) (tt := 3) Tryd.underlying105 h 0 rfl rfl rfl
    obtain ⟨y1, g1, r1⟩ := reads_fld (α := Int) (tt := 3) Tryd.underlying105 h 1 rfl rfl rfl
    obtain ⟨y2, g2, r2⟩ := reads_fld (α := Int) (tt := 3) Tryd.underlying105 h 2 rfl rfl rfl
    obtain ⟨y3, g3, r3⟩ := reads_fld (α := Int) (tt := 3) Tryd.underlying105 h 3 rfl rfl rfl
    obtain ⟨y4, g4, r4⟩ := reads_fld (α := Int) (tt := 3) Tryd.underlying105 h 4 rfl rfl rfl
    obtain ⟨y5, g5, r5⟩ := reads_fld (α := Int) (tt := 3) Tryd.underlying105 h 5 rfl rfl rfl
    obtain ⟨y6, g6, r6⟩ := reads_fld (α := Int) (tt := 3) Tryd.underlying105 h 6 rfl rfl rfl
    obtain ⟨y7, g7, r7⟩ := reads_fld (α := Int) (tt := 3) Tryd.underlying105 h 7 rfl rfl rfl
    obtain ⟨y8, g8, r8⟩ := reads_fld (α := Int) (tt := 3) Tryd.underlying105 h 8 rfl rfl rfl
    refine ⟨⟨y0, y1, y2, y3, y4, y5, y6, y7, y8⟩, ⟨g0, g1, g2, g3, g4, g5, g6, g7, g8⟩, ?_, ?_⟩
    · rw [reads_len Tryd.underlying105 h]; kernel_rfl
    · exact (RL.app (o := 0) (n := 1) r0 rfl (RL.app (o := 1) (n := 1) r1 rfl (RL.app (o := 2) (n := 1) r2 rfl (RL.app (o := 3) (n := 1) r3 rfl (RL.app (o := 4) (n := 1) r4 rfl (RL.app (o := 5) (n := 1) r5 rfl (RL.app (o := 6) (n := 1) r6 rfl (RL.app (o := 7) (n := 1) r7 rfl (RL.app (o := 8) (n := 1) r8 rfl (RL.nil))))))))) : RL w _ (cs.drop 0))
instance : RdOf Tryd.prog 33 (List TBody) := rdOf_slice Tryd.underlying33 (by kernel_rfl)
instance : RdOf Tryd.prog 35 TWorld where
  size := by kernel_rfl
  of {H enc w spare held fuel cs x} h := by
    obtain ⟨y0, g0, r0⟩ := reads_fld (α := TLevel) (tt := 31) Tryd.underlying35 h 0 rfl rfl rfl
    obtain ⟨y1, g1, r1⟩ := reads_fld (α := Int) (tt := 3) Tryd.underlying35 h 1 rfl rfl rfl
    obtain ⟨y2, g2, r2⟩ := reads_fld (α := Int) (tt := 3) Tryd.underlying35 h 2 rfl rfl rfl
    obtain ⟨y3, g3, r3⟩ := reads_fld (α := (List Int)) (tt := 32) Tryd.underlying35 h 3 rfl rfl rfl
    obtain ⟨y4, g4, r4⟩ := reads_fld (α := (List TBody)) (tt := 33) Tryd.underlying35 h 4 rfl rfl rfl
    refine ⟨⟨y0, y1, y2, y3, y4⟩, ⟨g0, g1, g2, g3, g4⟩, ?_, ?_⟩
    · rw [reads_len Tryd.underlying35 h]; kernel_rfl
    · exact (RL.app (o := 0) (n := 1) r0 rfl (RL.app (o := 1) (n := 1) r1 rfl (RL.app (o := 2) (n := 1) r2 rfl (RL.app (o := 3) (n := 1) r3 rfl (RL.app (o := 4) (n := 1) r4 rfl (RL.nil))))) : RL w _ (cs.drop 0))
end Go.Proofs.YtkfnaniegldfaaaDoor
end
