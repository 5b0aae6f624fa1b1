/-
  Parts of the proof (rules, data, and what functions of the program and of the reference return), among them: DeltaText, in the program and in the reference; Copies of replays in the program.
  Conditions: those that each theorem names.
-/
import Derived.ChangeKeysEq
import Derived.Test.YtbfhboakafjjgaaGreatDDReplRowk15
import Derived.Test.YtbfhboakafjjgaaGreatDDReplRowk16
import Derived.Test.YtbfhboakafjjgaaGreatDDReplRowk21
import Derived.Test.YtbfhboakafjjgaaGreatDDReplRowk22
import Derived.Test.YtbfhboakafjjgaaGreatDDReplRowk36
import Derived.Test.YtbfhboakafjjgaaGreatDDReplRowk38
set_option linter.unusedSimpArgs false
set_option linter.unusedVariables false
set_option maxRecDepth 8000
set_option maxHeartbeats 8000000
namespace Go.Proofs.YtbfhboakafjjgaaGreat
section
open Go.RowKit

class TyInts (P : Program) (t : TypeId) (n : outParam Nat) : Prop where
 u : P.underlying t = some (.struct (P.fieldsOf t))
 held : P.stoodInHeld t = false
 guard : P.eqGuardType P.depth t = false
 fs : ((P.fieldsOf t).toList.map fun f => (f.name == "_", f.offset, (match P.underlying f.type with | some (.int .i64) => true | _ => false), P.cellsOf f.type)) = (List.range n).map fun i => (false, i, true, 1)
theorem eqInts {P : Program} {w : World} (d : Nat) (xs ys : List Int) (hl : xs.length = ys.length) : ∀ (fs : List Field) (o : Nat), (fs.map fun f => (f.name == "_", f.offset, (match P.underlying f.type with | some (.int .i64) => true | _ => false), P.cellsOf f.type)) = ((List.range xs.length).drop o).map (fun i => (false, i, true, 1)) →
  (Op.eqFields (d + 1) (xs.map (Value.int .i64)).toArray (ys.map (Value.int .i64)).toArray fs).run P w = .ok (decide (xs.drop o = ys.drop o)) w
 | [],o,h => by
  have h1 : ((List.range xs.length).drop o) = [] := by simpa using h.symm
  have h2 : xs.length ≤ o := by simpa using h1
  rw [List.drop_eq_nil_of_le h2,List.drop_eq_nil_of_le (by omega)]
  simp [Op.eqFields]
 | f :: fs,o,h => by
  by_cases ho : o < xs.length
  ·rw [List.drop_eq_getElem_cons (by simpa using ho)] at h
   simp only [List.map_cons,List.cons.injEq,List.getElem_range,Prod.mk.injEq] at h
   obtain ⟨⟨h1,h2,h3,h4⟩,h5⟩ := h
   have hu : P.underlying f.type = some (.int .i64) := by
    split at h3
    ·assumption
    ·cases h3
   have ih := eqInts (w := w) d xs ys hl fs (o + 1) h5
   have hn : f.name ≠ "_" := by simpa using h1
   have hk : P.plainKey f.type = true := by simp [Program.plainKey,hu]
   have p1 : (Go.part f.type (xs.map (Value.int .i64)).toArray f.offset).run P w = .ok (.int .i64 xs[o]) w := run_part_plain w hk (by rw [h2]; simp [ho])
   have p2 : (Go.part f.type (ys.map (Value.int .i64)).toArray f.offset).run P w = .ok (.int .i64 (ys[o]'(by omega))) w := run_part_plain w hk (by rw [h2]; simp [show o < ys.length by omega])
   simp only [Op.eqFields,if_pos hn,Sem.run_bind,p1,p2,Result.andThen_ok,run_equalIn_int w d f.type .i64 .i64 _ _ hu]
   have dx : xs.drop o = xs[o] :: xs.drop (o + 1) := List.drop_eq_getElem_cons ho
   have dy : ys.drop o = ys[o]'(by omega) :: ys.drop (o + 1) := List.drop_eq_getElem_cons (by omega)
   have hd : decide (xs.drop o = ys.drop o) = (decide (xs[o] = ys[o]'(by omega)) && decide (xs.drop (o + 1) = ys.drop (o + 1))) := by
    rw [dx,dy,← Bool.decide_and]
    exact decide_eq_decide.2 (by rw [List.cons.injEq])
   rw [hd]
   by_cases e : xs[o] = ys[o]'(by omega)
   ·rw [decide_eq_true e,Bool.true_and]
    simp [e,ih]
   ·rw [decide_eq_false e,Bool.false_and]
    have e2 : (xs[o] == ys[o]'(by omega)) = false := by simp [e]
    simp [e2]
  ·rw [List.drop_eq_nil_of_le (by simp; omega)] at h
   simp at h
theorem ag_ints {w : World} {H : Hs} {F : Nat → Prop} {ps : List Nat} {cs : List V1} {xs : List Int} {v : Value} (hc : cs = xs.map fun n => V1.rd ps (.v (.int .i64 n))) (h : R2 w H F (.ag cs) v) : v = .agg (xs.map (Value.int .i64)).toArray := by
 obtain ⟨us,rfl,hl,hu⟩ := h
 subst hc
 rw [List.length_map] at hl
 congr 2
 apply List.ext_getElem
 ·simp [hl]
 ·intro i h1 h2
  have h3 := hu i (V1.rd ps (.v (.int .i64 (xs[i]'(by omega))))) us[i] (by simp [show i < xs.length by omega]) (by simp [h1])
  have h4 : RO w (inP H F ps) (.v (.int .i64 (xs[i]'(by omega)))) us[i] := h3
  rw [(RO.plain h4).1]
  simp
section
variable {P : Program} {ops : Array Oper} {o : Oper} {st : St} {m n : Nat} {t t' : TypeId} {y z : Operand} {ps qs : List Nat} {cs ds : List V1} {xs ys : List Int} {b : Bool}
theorem q_aneq [hi : TyInts P t n] (ho : o.op = .binOp .neq t y z t') (hg : o.guard = none) (hy : st.ev y = .o (.ag cs)) (hz : st.ev z = .o (.ag ds)) (hc : cs = xs.map fun n => V1.rd ps (.v (.int .i64 n))) (hd : ds = ys.map fun n => V1.rd qs (.v (.int .i64 n))) (h1 : xs.length = n) (h2 : ys.length = n) (hb : decide (xs ≠ ys) = b) : Qt P ops o st (B b) [] m :=
 .pure hg fun a w H F hr => ⟨.bool b,by
  have e1 := ag_ints (w := w) (H := H) (F := F) hc (by have := hr.ev y; rw [hy] at this; exact this)
  have e2 := ag_ints (w := w) (H := H) (F := F) hd (by have := hr.ev z; rw [hz] at this; exact this)
  have hq := eqInts (P := P) (w := w) 9998 xs ys (by omega) (P.fieldsOf t).toList 0 (by rw [hi.fs,h1]; rfl)
  have hf := run_equalIn_struct (P := P) w 9999 t (xs.map (Value.int .i64)).toArray (ys.map (Value.int .i64)).toArray hi.u hi.held
  rw [hq] at hf
  have hb2 : (!decide (xs = ys)) = b := by rw [← hb]; simp
  simp only [execOp,ho,e1,e2,Sem.run_bind,run_eqGuard_agg w .neq t y z _ _ hi.guard,Result.andThen_ok,run_neq_struct,hf,List.drop_zero,hb2]
  rfl,plainV _ rfl⟩
end
instance : TyInts Tryz.prog 76 9 := ⟨by kernel_rfl,by kernel_rfl,by kernel_rfl,by kernel_rfl⟩
end
section
open Go.RowKit

theorem bi_eq {x y : TBody} (h : x = y) : decide (bodyInts x ≠ bodyInts y) = false := by rw [h]; simp
theorem bi_ne {x y : TBody} (h : ¬ x = y) : decide (bodyInts x ≠ bodyInts y) = true := by
 refine decide_eq_true fun e => h ?_
 cases x
 cases y
 simp only [bodyInts,List.cons.injEq,and_true] at e
 simp only [TBody.mk.injEq]
 exact e
theorem slEqB (xs ys : List TBody) (hn : Enc.gd xs) : Con Tryz.prog 106 [] [al xs,al ys] [] (B (decide (xs = ys))) := by
 have hn1 := hn.1
 have hlx := Yp xs
 have hly := Yp ys
 by_cases hl : xs.length = ys.length
 ·have hb : decide (((els xs).length : Int) ≠ ((els ys).length : Int)) = false := by rw [hlx,hly,hl]; simp
  refine Con.of Tryz.func106 J Tryz.ntmps106 J (fun E => ?_)
  refine zy (z1 J (zz (Qd (zy (z0 J (zx (Zw J J J) J (z0 J (zx (Zw J J J) J ?_))))))));refine z9f J (by assumption) (zz (Ql J (Qh (Q0 (Qd (zy (z0 J (zx (Zw J J J) J (z0 J ?_)))))))));refine zz (Qk ?_);refine A_lq (fun m st => ∃ k : Nat,k + m = xs.length ∧ (xs.take k = ys.take k) ∧ st = (⟨_,[(0,L xs),(1,L ys),(12,I (els xs).length),(13,I k)],[]⟩ : St)) (xs.length) ⟨_,⟨0,by omega,by simp,J⟩,W_gj [] (by kernel_rfl)⟩ ?_
  rintro m_A _ ⟨k,hk_A,hp_A,rfl⟩
  refine zy (zx (Z1 J J J J) J (zz (Qd ?_)))
  refine Xb J (fun h => ?_) (fun h => ?_)
  ·have h3 : k < xs.length := by have := of_decide_eq_true h; omega
   have h4 : k < ys.length := by omega
   have hat := Yo h3
   have hat2 := Yo h4
   by_cases he : xs[k] = ys[k]
   ·have hb6 := bi_eq he
    refine Qh (Q0 (Qd (Qk (zy (z0 J (z1 J (zz (Qd (Xi u8_37 u8_38 u8_39 J ?_)))))))));refine DR.s (Qa J J J) J J (DR.s (Qa J J J) J J (DR.s (Q2 J J J J (by omega) (by assumption) J) J J (DR.s (q_lrN J J J J J) J J (DR.s (Qa J J J) J J (DR.s (Qa J J J) J J (DR.s (Q2 J J J J (by omega) (by assumption) J) J J (DR.s (q_lrN J J J J J) J J ?_)))))));refine DR.s (q_aneq (ps := []) (qs := []) (xs := bodyInts xs[k]) (ys := bodyInts ys[k]) J J J J J J J J hb6) J J ?_;refine DR.stop (by kernel_rfl) (by kernel_rfl) (zz (Ql J (Qh (Q1 (Q0 (Qc (z7 J (by omega) (z0 J (zz ?_)))))))))
    exact ⟨xs.length - (k + 1),by omega,_,⟨k + 1,by omega,eq_next h3 h4 hp_A he,J⟩,W_gj [] (by kernel_rfl)⟩
   ·have hb6 := bi_ne he
    refine Qh (Q0 (Qd (Qk (zy (z0 J (z1 J (zz (Qd (Xi u8_37 u8_38 u8_39 J ?_)))))))));refine DR.s (Qa J J J) J J (DR.s (Qa J J J) J J (DR.s (Q2 J J J J (by omega) (by assumption) J) J J (DR.s (q_lrN J J J J J) J J (DR.s (Qa J J J) J J (DR.s (Qa J J J) J J (DR.s (Q2 J J J J (by omega) (by assumption) J) J J (DR.s (q_lrN J J J J J) J J ?_)))))));refine DR.s (q_aneq (ps := []) (qs := []) (xs := bodyInts xs[k]) (ys := bodyInts ys[k]) J J J J J J J J hb6) J J ?_;refine DR.stop (by kernel_rfl) (by kernel_rfl) (zz (Qm J (zy (z1 J (zz (Xa (B_r (T_r ?_))))))));refine T_r (B_r (T_r (F_r ?_)))
    exact Xp J J (X5 [] (by decide) J J (Xk (eq_ne h3 h4 he).symm))
  ·have h3 : ¬ ((k : Int) < (els xs).length) := of_decide_eq_false h
   refine Q9 (T_x (T_x (Xl (Q0 (zy (z1 J (zz (Xa (F_r ?_)))))))))
   exact Xp J J (X5 [] (by decide) J J (Xk (eq_all (by omega) hl hp_A).symm))
 ·have hb : decide (((els xs).length : Int) ≠ ((els ys).length : Int)) = true := by rw [hlx,hly]; simp; omega
  refine Con.of Tryz.func106 J Tryz.ntmps106 J (fun E => ?_)
  refine zy (z1 J (zz (Qd (zy (z0 J (zx (Zw J J J) J (z0 J (zx (Zw J J J) J ?_))))))));refine z9f J (by assumption) (zz (Qm J (zy (z1 J (zz (Xa (T_r (F_r ?_))))))))
  exact Xp J J (X5 [] (by decide) J J (Xk (eq_len hl).symm))
theorem I_SameWorld (x y : TWorld) (hg : Enc.gd x) : Con Tryz.prog 52 [] [ag x,ag y] [] (B (decide (x = y))) := by
 obtain ⟨g_Level,g_Tick,g_Seed,g_Scores,g_Bodies⟩ := hg
 by_cases e_Level : ¬ x.Level = y.Level
 ·have hc := I_sameLevel x.Level y.Level g_Level
  rw [decide_eq_false e_Level] at hc
  refine Con.of Tryz.func52 J Tryz.ntmps52 J (fun E => ?_)
  refine zy (M1 (Qq J J J J) J J (M1 (Qq J J J J) J J (z1 J (zz (zy (z2 J J J (z4 J J J (z2 J J J ?_))))))));refine z4 J J J ?_;refine zx (Qj J J (hc) J) J ?_;refine z0 J (z6 J (z6 J (z6 J (z6 J (z6 J (zpF J (z0 J (z6 J (z6 J (z6 J (z6 J ?_)))))))))));refine z6 J (zpF J (z0 J (z6 J (z6 J (z6 J (z6 J (z6 J (zpF J (z0 J (z6 J (z6 J ?_)))))))))));refine z6 J (z6 J (z6 J (zpF J (z1 J (zz (Xa (F_r ?_)))))))
  exact Xp J J (X5 [] (by decide) J J (Xk (decide_eq_false fun e => e_Level (by rw [e])).symm))
 have e_Level := Classical.not_not.1 e_Level
 have hc_Level := I_sameLevel x.Level y.Level g_Level
 rw [decide_eq_true e_Level] at hc_Level
 by_cases e_Tick : ¬ x.Tick = y.Tick
 ·have hk : decide (x.Tick = y.Tick) = false := by simp [e_Tick]
  refine Con.of Tryz.func52 J Tryz.ntmps52 J (fun E => ?_)
  refine zy (M1 (Qq J J J J) J J (M1 (Qq J J J J) J J (z1 J (zz (zy (z2 J J J (z4 J J J (z2 J J J ?_))))))));refine z4 J J J ?_;refine zx (Qj J J (hc_Level) J) J ?_;refine z0 J (z5 J (z2 J J J (z5 J (z3 J (z5 J (z2 J J J (z5 J (z3 J (z5 J (z9e J (by assumption) (zpT J ?_)))))))))));refine z0 J (z6 J (z6 J (z6 J (z6 J (z6 J (zpF J (z0 J (z6 J (z6 J (z6 J (z6 J ?_)))))))))));refine z6 J (zpF J (z0 J (z6 J (z6 J (z6 J (z6 J (z6 J (zpF J (z1 J (zz ?_))))))))));refine Xa (F_r ?_)
  exact Xp J J (X5 [] (by decide) J J (Xk (decide_eq_false fun e => e_Tick (by rw [e])).symm))
 have e_Tick := Classical.not_not.1 e_Tick
 have k_Tick : decide (x.Tick = y.Tick) = true := by simp [e_Tick]
 by_cases e_Seed : ¬ x.Seed = y.Seed
 ·have hk : decide (x.Seed = y.Seed) = false := by simp [e_Seed]
  refine Con.of Tryz.func52 J Tryz.ntmps52 J (fun E => ?_)
  refine zy (M1 (Qq J J J J) J J (M1 (Qq J J J J) J J (z1 J (zz (zy (z2 J J J (z4 J J J (z2 J J J ?_))))))));refine z4 J J J ?_;refine zx (Qj J J (hc_Level) J) J ?_;refine z0 J (z5 J (z2 J J J (z5 J (z3 J (z5 J (z2 J J J (z5 J (z3 J (z5 J (z9e J (by assumption) (zpT J ?_)))))))))));refine z0 J (z5 J (z2 J J J (z5 J (z3 J (z5 J (z2 J J J (z5 J (z3 J (z5 J (z9e J (by assumption) (zpT J ?_)))))))))));refine z0 J (z6 J (z6 J (z6 J (z6 J (z6 J (zpF J (z0 J (z6 J (z6 J (z6 J (z6 J ?_)))))))))));refine z6 J (zpF J (z1 J (zz (Xa (F_r ?_)))))
  exact Xp J J (X5 [] (by decide) J J (Xk (decide_eq_false fun e => e_Seed (by rw [e])).symm))
 have e_Seed := Classical.not_not.1 e_Seed
 have k_Seed : decide (x.Seed = y.Seed) = true := by simp [e_Seed]
 by_cases e_Scores : ¬ x.Scores = y.Scores
 ·have hc := slEqI x.Scores y.Scores g_Scores
  rw [decide_eq_false e_Scores] at hc
  refine Con.of Tryz.func52 J Tryz.ntmps52 J (fun E => ?_)
  refine zy (M1 (Qq J J J J) J J (M1 (Qq J J J J) J J (z1 J (zz (zy (z2 J J J (z4 J J J (z2 J J J ?_))))))));refine z4 J J J ?_;refine zx (Qj J J (hc_Level) J) J ?_;refine z0 J (z5 J (z2 J J J (z5 J (z3 J (z5 J (z2 J J J (z5 J (z3 J (z5 J (z9e J (by assumption) (zpT J ?_)))))))))));refine z0 J (z5 J (z2 J J J (z5 J (z3 J (z5 J (z2 J J J (z5 J (z3 J (z5 J (z9e J (by assumption) (zpT J ?_)))))))))));refine z0 J (z5 J (z2 J J J (z5 J (z3 J (z5 J (z2 J J J (z5 J (z3 J (z5 J ?_)))))))));refine zx (Qj J J (hc) J) J ?_;refine zpT J (z0 J (z6 J (z6 J (z6 J (z6 J (z6 J (zpF J (z1 J (zz (Xa ?_))))))))));refine F_r ?_
  exact Xp J J (X5 [] (by decide) J J (Xk (decide_eq_false fun e => e_Scores (by rw [e])).symm))
 have e_Scores := Classical.not_not.1 e_Scores
 have hc_Scores := slEqI x.Scores y.Scores g_Scores
 rw [decide_eq_true e_Scores] at hc_Scores
 by_cases e_Bodies : ¬ x.Bodies = y.Bodies
 ·have hc := slEqB x.Bodies y.Bodies g_Bodies
  rw [decide_eq_false e_Bodies] at hc
  refine Con.of Tryz.func52 J Tryz.ntmps52 J (fun E => ?_)
  refine zy (M1 (Qq J J J J) J J (M1 (Qq J J J J) J J (z1 J (zz (zy (z2 J J J (z4 J J J (z2 J J J ?_))))))));refine z4 J J J ?_;refine zx (Qj J J (hc_Level) J) J ?_;refine z0 J (z5 J (z2 J J J (z5 J (z3 J (z5 J (z2 J J J (z5 J (z3 J (z5 J (z9e J (by assumption) (zpT J ?_)))))))))));refine z0 J (z5 J (z2 J J J (z5 J (z3 J (z5 J (z2 J J J (z5 J (z3 J (z5 J (z9e J (by assumption) (zpT J ?_)))))))))));refine z0 J (z5 J (z2 J J J (z5 J (z3 J (z5 J (z2 J J J (z5 J (z3 J (z5 J ?_)))))))));refine zx (Qj J J (hc_Scores) J) J ?_;refine zpT J (z0 J (z5 J (z2 J J J (z5 J (z3 J (z5 J (z2 J J J (z5 J (z3 J (z5 J ?_))))))))));refine zx (Qj J J (hc) J) J ?_;refine zpT J (z1 J (zz (Xa (F_r ?_))))
  exact Xp J J (X5 [] (by decide) J J (Xk (decide_eq_false fun e => e_Bodies (by rw [e])).symm))
 have e_Bodies := Classical.not_not.1 e_Bodies
 have hc_Bodies := slEqB x.Bodies y.Bodies g_Bodies
 rw [decide_eq_true e_Bodies] at hc_Bodies
 refine Con.of Tryz.func52 J Tryz.ntmps52 J (fun E => ?_)
 refine zy (M1 (Qq J J J J) J J (M1 (Qq J J J J) J J (z1 J (zz (zy (z2 J J J (z4 J J J (z2 J J J ?_))))))));refine z4 J J J ?_;refine zx (Qj J J (hc_Level) J) J ?_;refine z0 J (z5 J (z2 J J J (z5 J (z3 J (z5 J (z2 J J J (z5 J (z3 J (z5 J (z9e J (by assumption) (zpT J ?_)))))))))));refine z0 J (z5 J (z2 J J J (z5 J (z3 J (z5 J (z2 J J J (z5 J (z3 J (z5 J (z9e J (by assumption) (zpT J ?_)))))))))));refine z0 J (z5 J (z2 J J J (z5 J (z3 J (z5 J (z2 J J J (z5 J (z3 J (z5 J ?_)))))))));refine zx (Qj J J (hc_Scores) J) J ?_;refine zpT J (z0 J (z5 J (z2 J J J (z5 J (z3 J (z5 J (z2 J J J (z5 J (z3 J (z5 J ?_))))))))));refine zx (Qj J J (hc_Bodies) J) J ?_;refine zpT J (z1 J (zz (Xa (F_r ?_))))
 exact Xp J J (X5 [] (by decide) J J (Xk (decide_eq_true (by cases x; cases y; simp_all)).symm))
theorem S_SameWorld (x y : TWorld) (hg : Enc.gd x) : Con Tryz.prog 14 [] [ag x,ag y] [] (B (decide (x = y))) := by
 obtain ⟨g_Level,g_Tick,g_Seed,g_Scores,g_Bodies⟩ := hg
 have hlx := Yp x.Bodies
 have hly := Yp y.Bodies
 have hnb := g_Bodies.1
 have c1 := S_ints x.Scores y.Scores g_Scores
 have c2 := S_sameLevel x.Level y.Level g_Level
 by_cases n1 : x.Tick = y.Tick
 case neg =>
  have f1 : decide (x.Tick ≠ y.Tick) = true := decide_eq_true n1
  rw [decide_eq_false (fun e : x = y => n1 (by rw [e]))]
  refine Con.of Tryz.func14 J Tryz.ntmps14 J (fun E => ?_)
  refine zy (M1 (Qq J J J J) J J (M1 (Qq J J J J) J J (z1 J (zz (Qd (zy (z2 J J J (z3 J ?_))))))));refine z2 J J J (z3 J (z9f J (by assumption) (z0 J (z6 J (z6 J (z6 J (z6 J (z6 J (zpT J (z0 J (z6 J ?_)))))))))));refine z6 J (z6 J (z6 J (z6 J (z6 J (zpT J (z0 J (z6 J (z6 J (z6 J (z6 J (z6 J ?_)))))))))));refine z6 J (z6 J (zpT J (z0 J (z6 J (z6 J (z6 J (z6 J (z6 J (z6 J (zpT J (Qe ?_)))))))))));refine Q0 (Qm J (zy (z1 J (zz (Xa (T_r (F_r ?_)))))))
  exact Xp J J (X5 [] (by decide) J J J)
 have f1 : decide (x.Tick ≠ y.Tick) = false := decide_eq_false (fun q => q n1)
 by_cases n2 : x.Seed = y.Seed
 case neg =>
  have f2 : decide (x.Seed ≠ y.Seed) = true := decide_eq_true n2
  rw [decide_eq_false (fun e : x = y => n2 (by rw [e]))]
  refine Con.of Tryz.func14 J Tryz.ntmps14 J (fun E => ?_)
  refine zy (M1 (Qq J J J J) J J (M1 (Qq J J J J) J J (z1 J (zz (Qd (zy (z2 J J J (z3 J ?_))))))));refine z2 J J J (z3 J (z9f J (by assumption) (z0 J (z5 J (z2 J J J (z5 J (z3 J (z5 J (z2 J J J (z5 J (z3 J ?_)))))))))));refine z5 J (z9f J (by assumption) (zpF J (z0 J (z6 J (z6 J (z6 J (z6 J (z6 J (z6 J (zpT J (z0 J ?_)))))))))));refine z6 J (z6 J (z6 J (z6 J (z6 J (z6 J (z6 J (zpT J (z0 J (z6 J (z6 J (z6 J ?_)))))))))));refine z6 J (z6 J (z6 J (zpT J (zz (Qm J (zy (z1 J (zz ?_))))))));refine Xa (T_r (F_r ?_))
  exact Xp J J (X5 [] (by decide) J J J)
 have f2 : decide (x.Seed ≠ y.Seed) = false := decide_eq_false (fun q => q n2)
 by_cases n3 : x.Scores = y.Scores
 case neg =>
  rw [decide_eq_false n3] at c1
  rw [decide_eq_false (fun e : x = y => n3 (by rw [e]))]
  refine Con.of Tryz.func14 J Tryz.ntmps14 J (fun E => ?_)
  refine zy (M1 (Qq J J J J) J J (M1 (Qq J J J J) J J (z1 J (zz (Qd (zy (z2 J J J (z3 J ?_))))))));refine z2 J J J (z3 J (z9f J (by assumption) (z0 J (z5 J (z2 J J J (z5 J (z3 J (z5 J (z2 J J J (z5 J (z3 J ?_)))))))))));refine z5 J (z9f J (by assumption) (zpF J (z0 J (z5 J (z2 J J J (z5 J (z3 J (z5 J (z2 J J J (z5 J (z3 J ?_)))))))))));refine z5 J ?_;refine zx (Qj J J (c1) J) J ?_;refine z5 J (zn J (zpF J (z0 J (z6 J (z6 J (z6 J (z6 J (z6 J (z6 J (z6 J (zpT J ?_)))))))))));refine z0 J (z6 J (z6 J (z6 J (z6 J (z6 J (z6 J (zpT J (zz (Qm J (Qd ?_))))))))));refine Qc (z1 J (zz (Xa (T_r (F_r ?_)))))
  exact Xp J J (X5 [] (by decide) J J J)
 rw [decide_eq_true n3] at c1
 by_cases n4 : x.Bodies.length = y.Bodies.length
 case neg =>
  have f4 : decide (((els x.Bodies).length : Int) ≠ ((els y.Bodies).length : Int)) = true := decide_eq_true (by omega)
  rw [decide_eq_false (fun e : x = y => n4 (by rw [e]))]
  refine Con.of Tryz.func14 J Tryz.ntmps14 J (fun E => ?_)
  refine zy (M1 (Qq J J J J) J J (M1 (Qq J J J J) J J (z1 J (zz (Qd (zy (z2 J J J (z3 J ?_))))))));refine z2 J J J (z3 J (z9f J (by assumption) (z0 J (z5 J (z2 J J J (z5 J (z3 J (z5 J (z2 J J J (z5 J (z3 J ?_)))))))))));refine z5 J (z9f J (by assumption) (zpF J (z0 J (z5 J (z2 J J J (z5 J (z3 J (z5 J (z2 J J J (z5 J (z3 J ?_)))))))))));refine z5 J ?_;refine zx (Qj J J (c1) J) J ?_;refine z5 J (zn J (zpF J (z0 J (z5 J (z2 J J J (z5 J (z3 J (z5 J (zx (Zw J J J) J (z5 J (z2 J J J ?_)))))))))));refine z5 J (z3 J (z5 J (zx (Zw J J J) J (z5 J (z9f J (by assumption) (zpF J (z0 J (z6 J (z6 J (z6 J (z6 J ?_)))))))))));refine z6 J (z6 J (zpT J (zz (Qm J (zy (z1 J (zz (Xa ?_))))))));refine T_r (F_r ?_)
  exact Xp J J (X5 [] (by decide) J J J)
 have f4 : decide (((els x.Bodies).length : Int) ≠ ((els y.Bodies).length : Int)) = false := decide_eq_false (by omega)
 by_cases n5 : x.Level = y.Level
 case neg =>
  rw [decide_eq_false n5] at c2
  rw [decide_eq_false (fun e : x = y => n5 (by rw [e]))]
  refine Con.of Tryz.func14 J Tryz.ntmps14 J (fun E => ?_)
  refine zy (M1 (Qq J J J J) J J (M1 (Qq J J J J) J J (z1 J (zz (Qd (zy (z2 J J J (z3 J ?_))))))));refine z2 J J J (z3 J (z9f J (by assumption) (z0 J (z5 J (z2 J J J (z5 J (z3 J (z5 J (z2 J J J (z5 J (z3 J ?_)))))))))));refine z5 J (z9f J (by assumption) (zpF J (z0 J (z5 J (z2 J J J (z5 J (z3 J (z5 J (z2 J J J (z5 J (z3 J ?_)))))))))));refine z5 J ?_;refine zx (Qj J J (c1) J) J ?_;refine z5 J (zn J (zpF J (z0 J (z5 J (z2 J J J (z5 J (z3 J (z5 J (zx (Zw J J J) J (z5 J (z2 J J J ?_)))))))))));refine z5 J (z3 J (z5 J (zx (Zw J J J) J (z5 J (z9f J (by assumption) (zpF J (z0 J (z5 J (z2 J J J (z5 J (z4 J J J ?_)))))))))));refine z5 J (z2 J J J (z5 J (z4 J J J (z5 J ?_))));refine zx (Qj J J (c2) J) J ?_;refine z5 J (zn J (zpF J (zz (Qm J (zy (z1 J (zz (Xa ?_))))))));refine T_r (F_r ?_)
  exact Xp J J (X5 [] (by decide) J J J)
 rw [decide_eq_true n5] at c2
 have hxy : decide (x = y) = decide (x.Bodies = y.Bodies) := decide_eq_decide.2 ⟨fun e => by rw [e],fun e => by cases x; cases y; simp_all⟩
 rw [hxy]
 clear hxy
 refine Con.of Tryz.func14 J Tryz.ntmps14 J (fun E => ?_)
 refine zy (M1 (Qq J J J J) J J (M1 (Qq J J J J) J J (z1 J (zz (Qd (zy (z2 J J J (z3 J ?_))))))));refine z2 J J J (z3 J (z9f J (by assumption) (z0 J (z5 J (z2 J J J (z5 J (z3 J (z5 J (z2 J J J (z5 J (z3 J ?_)))))))))));refine z5 J (z9f J (by assumption) (zpF J (z0 J (z5 J (z2 J J J (z5 J (z3 J (z5 J (z2 J J J (z5 J (z3 J ?_)))))))))));refine z5 J ?_;refine zx (Qj J J (c1) J) J ?_;refine z5 J (zn J (zpF J (z0 J (z5 J (z2 J J J (z5 J (z3 J (z5 J (zx (Zw J J J) J (z5 J (z2 J J J ?_)))))))))));refine z5 J (z3 J (z5 J (zx (Zw J J J) J (z5 J (z9f J (by assumption) (zpF J (z0 J (z5 J (z2 J J J (z5 J (z4 J J J ?_)))))))))));refine z5 J (z2 J J J (z5 J (z4 J J J (z5 J ?_))));refine zx (Qj J J (c2) J) J ?_;refine z5 J (zn J (zpF J (zz (Ql J (Qh (Q0 (Qd (zy (z1 J ?_)))))))));refine zz (Qk ?_);refine A_lq (fun m st => ∃ k : Nat,k + m = x.Bodies.length ∧ (x.Bodies.take k = y.Bodies.take k) ∧ st = (⟨_,[(2,.o (.c (.ptr 0 0))),(3,.o (.c (.ptr 1 0))),(5,I k)],[.box ((Enc.e x).map (V1.rd [])),.box ((Enc.e y).map (V1.rd []))]⟩ : St)) (x.Bodies.length) ⟨_,⟨0,by omega,by simp,J⟩,W_gj [0,1] (by kernel_rfl)⟩ ?_
 rintro m_A _ ⟨k,hk_A,hp_A,rfl⟩
 by_cases h3 : k < x.Bodies.length
 ·have hb0 : decide ((k : Int) < (els x.Bodies).length) = true := decide_eq_true (by omega)
  have h4 : k < y.Bodies.length := by omega
  have hat := Yo h3
  have hat2 := Yo h4
  by_cases he : x.Bodies[k] = y.Bodies[k]
  ·have hb6 := bi_eq he
   refine Qd (zy (z0 J (z2 J J J (z3 J (zx (Zw J J J) J (z9a J (by assumption) (zz (Qm J (Qh ?_)))))))));refine Q0 (Qd (Qk (Qd (Xi u8_42 u8_45 u8_46 J (DR.s (Qf J J J J (by decide)) J J (DR.s (Qg J J J J J) J J (DR.s (Qa J J J) J J (DR.s (Q2 J J J J (by omega) (by assumption) J) J J (DR.s (q_lrN J J J J J) J J (DR.s (Qf J J J J (by decide)) J J (DR.s (Qg J J J J J) J J ?_)))))))))));refine DR.s (Qa J J J) J J (DR.s (Q2 J J J J (by omega) (by assumption) J) J J (DR.s (q_lrN J J J J J) J J ?_));refine DR.s (q_aneq (ps := []) (qs := []) (xs := bodyInts x.Bodies[k]) (ys := bodyInts y.Bodies[k]) J J J J J J J J hb6) J J ?_;refine DR.stop (by kernel_rfl) (by kernel_rfl) (zz (Ql J (Qh (Q1 (Q0 (Qc (z0 J (z7 J (by omega) (z1 J (Qe ?_))))))))));refine Q0 ?_
   exact ⟨x.Bodies.length - (k + 1),by omega,_,⟨k + 1,by omega,eq_next h3 h4 hp_A he,J⟩,W_gj [0,1] (by kernel_rfl)⟩
  ·have hb6 := bi_ne he
   refine Qd (zy (z0 J (z2 J J J (z3 J (zx (Zw J J J) J (z9a J (by assumption) (zz (Qm J (Qh ?_)))))))));refine Q0 (Qd (Qk (Qd (Xi u8_42 u8_45 u8_46 J (DR.s (Qf J J J J (by decide)) J J (DR.s (Qg J J J J J) J J (DR.s (Qa J J J) J J (DR.s (Q2 J J J J (by omega) (by assumption) J) J J (DR.s (q_lrN J J J J J) J J (DR.s (Qf J J J J (by decide)) J J (DR.s (Qg J J J J J) J J ?_)))))))))));refine DR.s (Qa J J J) J J (DR.s (Q2 J J J J (by omega) (by assumption) J) J J (DR.s (q_lrN J J J J J) J J ?_));refine DR.s (q_aneq (ps := []) (qs := []) (xs := bodyInts x.Bodies[k]) (ys := bodyInts y.Bodies[k]) J J J J J J J J hb6) J J ?_;refine DR.stop (by kernel_rfl) (by kernel_rfl) (zz (Qm J (zy (z1 J (zz (Xa (B_r (T_r ?_))))))));refine T_r (B_r (T_r (F_r ?_)))
   exact Xp J J (X5 [] (by decide) J J (Xk (eq_ne h3 h4 he).symm))
 ·have hb0 : decide ((k : Int) < (els x.Bodies).length) = false := decide_eq_false (by omega)
  refine Qd (zy (z0 J (z2 J J J (z3 J (zx (Zw J J J) J (z9a J (by assumption) (zz (Ql J (Q9 ?_)))))))));refine T_x (T_x (Xl (Q0 (zy (z1 J (zz (Xa (F_r ?_))))))))
  exact Xp J J (X5 [] (by decide) J J (Xk (eq_all (by omega) n4 hp_A).symm))
end
section
open Go.RowKit

noncomputable def badKey (r : TReplay) (k : Nat) : Bool := !(rwB (keyAt r k) && decide (rwW (keyAt r k) = rwW (playM r (((k : Int) + 1) * r.Every))))
noncomputable def tamF (r : TReplay) : Nat → Option Nat
 | 0 => none
 | n + 1 => match tamF r n with
  | some k => some k
  | none => if badKey r n = true then some n else none
theorem tamF_go {r : TReplay} {k : Nat} (h : tamF r k = none) (hb : badKey r k = false) : tamF r (k + 1) = none := by rw [tamF,h]; simp [hb]
theorem tamF_hit {r : TReplay} {k : Nat} (h : tamF r k = none) (hb : badKey r k = true) : ∀ {n : Nat},k < n → tamF r n = some k
 | n + 1,hlt => by
  rcases Nat.lt_or_ge k n with h1 | h1
  ·rw [tamF,tamF_hit h hb h1]
  ·have : k = n := by omega
   subst this
   rw [tamF,h]; simp [hb]
noncomputable def tamper (r : TReplay) : Int := if replayOk r = true then (match tamF r r.Keys.length with
 | some k => k
 | none => -1) else -1
theorem tam_no {r : TReplay} (h : replayOk r = false) : tamper r = -1 := by rw [tamper,if_neg (by rw [h]; simp)]
theorem tam_hit {r : TReplay} {k : Nat} (h : replayOk r = true) (hk : tamF r r.Keys.length = some k) : tamper r = k := by rw [tamper,if_pos h,hk]
theorem tam_all {r : TReplay} (h : replayOk r = true) (hk : tamF r r.Keys.length = none) : tamper r = -1 := by rw [tamper,if_pos h,hk]
theorem key_range {r : TReplay} (h : replayOk r = true) {k : Nat} (hk : k < r.Keys.length) : 0 ≤ ((k : Int) + 1) * r.Every ∧ ((k : Int) + 1) * r.Every ≤ r.Rows.length := by
 have hr := rok h
 obtain ⟨he,_⟩ := hr.e
 unfold replayOk at h
 simp only [Bool.and_eq_true,decide_eq_true_eq,Y3] at h
 obtain ⟨⟨⟨⟨⟨⟨h1,h2⟩,h3⟩,h4⟩,h5⟩,h6⟩,h7⟩ := h
 have hlen : (r.Keys.length : Int) = (r.Rows.length : Int) / r.Every := by omega
 refine ⟨Int.mul_nonneg (by omega) (by omega),?_⟩
 have h8 : ((k : Int) + 1) * r.Every ≤ ((r.Rows.length : Int) / r.Every) * r.Every := Int.mul_le_mul_of_nonneg_right (by omega) (by omega)
 have h9 := Int.ediv_mul_le (r.Rows.length : Int) (b := r.Every) (by omega)
 omega
theorem bad_no {r : TReplay} {k : Nat} (h : keyAt r k = none) : badKey r k = true := by rw [badKey,h]; rfl
theorem bad_at {r : TReplay} {k : Nat} {w z : TWorld} (h : keyAt r k = some w) (h2 : playM r (((k : Int) + 1) * r.Every) = some z) : badKey r k = !decide (w = z) := by rw [badKey,h,h2]; rfl
theorem I_FindTamper (r : TReplay) (hg : Enc.gd r) (ir : RepIn r) (hks : ∀ x ∈ r.Keys,x.size ≤ 1048576) : Con Tryz.prog 16 [] [ag r] [] (I (tamper r)) := by
 have cr := Xu r hg
 have hlk := Yp r.Keys
 have hkl := ir.h2
 have hrl := ir.h3
 cases ho : replayOk r with
 | false =>
  rw [ho] at cr
  rw [tam_no ho]
  refine Con.of Tryz.func16 J Tryz.ntmps16 J (fun E => ?_)
  refine zy (M1 (Qq J J J J) J J (z1 J (zz (Qd (zy (z4 J J J ?_))))));refine zx (Qj J J (cr) J) J ?_;refine zn J (zz (Qm J (zy (z1 J (zz (Xa (T_r (F_r ?_))))))))
  exact Xp J J (X5 [] (by decide) J J J)
 | true =>
 rw [ho] at cr
 refine Con.of Tryz.func16 J Tryz.ntmps16 J (fun E => ?_)
 refine zy (M1 (Qq J J J J) J J (z1 J (zz (Qd (zy (z4 J J J ?_))))));refine zx (Qj J J (cr) J) J ?_;refine zn J (zz (Ql J (Qh (Q0 (Qd (zy (z2 J J J (z3 J (zx (Zw J J J) J ?_)))))))));refine z0 J (zz (Qk ?_));refine A_lq (fun m st => ∃ k : Nat,k + m = r.Keys.length ∧ (tamF r k = none) ∧ st = (⟨_,[(1,.o (.c (.ptr 0 0))),(13,I (els r.Keys).length),(14,I k)],[.box ((Enc.e r).map (V1.rd []))]⟩ : St)) (r.Keys.length) ⟨_,⟨0,by omega,J,J⟩,W_gj [0] (by kernel_rfl)⟩ ?_
 rintro m_A _ ⟨k,hk_A,hp_A,rfl⟩
 by_cases hlt : k < r.Keys.length
 ·have hb0 : decide ((k : Int) < (els r.Keys).length) = true := decide_eq_true (by omega)
  obtain ⟨hm1,hm2⟩ := key_range ho hlt
  have cka := I_KeyAt r k hg ⟨by omega,by omega⟩ ir hks
  have cpl := I_PlayReplay r (((k : Int) + 1) * r.Every) hg ⟨by omega,by omega⟩ ir
  have hpl := play_yes (r := r) (k := ((k : Int) + 1) * r.Every) ⟨ho,hm1,hm2⟩
  have iz := play_in (k := ((k : Int) + 1) * r.Every) ir
  have iw := keyAt_in (k := (k : Int)) ir
  obtain ⟨z,hz⟩ : ∃ z,playM r (((k : Int) + 1) * r.Every) = some z := ⟨_,hpl⟩
  rw [hz] at cpl iz
  cases hk : keyAt r k with
  | none =>
   rw [hk] at cka
   have hx := tam_hit ho (tamF_hit hp_A (bad_no hk) hlt)
   refine zy (z9a J (by assumption) (zz (Qd (Qm J (Qh (Q0 (Qd (Qk (Qd ?_)))))))));refine Qc (z0 J (z1 J (zz (zy (z4 J J J (z0 J ?_))))));refine M1 (Zo J J (cka) J J J) J J ?_;refine zx (Q8 J J J) J (ze J (ze J (M1 (Qx J J J) J J ?_)));refine Qy J J J J J J J J J (z1 J (zz (zy (z4 J J J (z0 J (z7 J (by omega) (z2 J J J (z3 J (zx (Z3 J J J J (by omega)) J ?_)))))))));refine M1 (Zo J J (cpl) J J J) J J ?_;refine zx (Q8 J J J) J (ze J (ze J (M1 (Qx J J J) J J ?_)));refine Qy J J J J J J J J J (z1 J (zz (zy (z0 J (zn J (z0 J (z6 J (z6 J (zpT J ?_)))))))));refine z0 J (z6 J (z6 J (z6 J (z6 J (zpT J (zz (Qm J (zy (z0 J ?_)))))))));refine z1 J (zz (Xa (B_r (T_r (T_r (B_r (T_r (F_r ?_))))))))
   exact Xp J J (X5 [] (by decide) J J (Xx hx.symm))
  | some w =>
   rw [hk] at cka iw
   have hbd := bad_at hk hz
   have csw := I_SameWorld w z iw.gd
   clear hpl
   refine zy (z9a J (by assumption) (zz (Qd (Qm J (Qh (Q0 (Qd (Qk (Qd ?_)))))))));refine Qc (z0 J (z1 J (zz (zy (z4 J J J (z0 J ?_))))));refine M1 (Zo J J (cka) J J J) J J ?_;refine zx (Q8 J J J) J (ze J (ze J (M1 (Qx J J J) J J ?_)));refine Qy J J J J J J J J J (z1 J (zz (zy (z4 J J J (z0 J (z7 J (by omega) (z2 J J J (z3 J (zx (Z3 J J J J (by omega)) J ?_)))))))));refine AL.weak (st' := (⟨_,[(1,.o (.c (.ptr 0 0))),(3,I k),(4,.o (.c (.ptr 4 0))),(5,B true),(13,I (els r.Keys).length),(14,I k),(24,.o (.ag ((Enc.e r).map (V1.rd [])))),(29,I (((k : Int) + 1) * r.Every))],[.box ((Enc.e r).map (V1.rd [])),.row 1 (els w.Level.Rows),.row 1 (els w.Scores),.row 9 (els w.Bodies),.box [.ref 1,jn w.Tick,jn w.Seed,.ref 2,.ref 3]]⟩ : St)) (W_gj [0,1,2,3,4] (by kernel_rfl)) ?_;refine M1 (Zo J J (cpl) J J J) J J ?_;refine zx (Q8 J J J) J (ze J (ze J (M1 (Qx J J J) J J ?_)));refine Qy J J J J J J J J J (z1 J (zz (zy (z0 J (zn J (z0 J (z5 J (z0 J (z5 J ?_)))))))));refine zn J (zpF J (z0 J (z5 J (z4 J J J (z5 J (z4 J J J (z5 J ?_)))))));refine AL.weak (st' := (⟨_,[(1,.o (.c (.ptr 0 0))),(3,I k),(13,I (els r.Keys).length),(14,I k),(39,B false),(40,.o (.ag [.ref 1,jn w.Tick,jn w.Seed,.ref 2,.ref 3])),(41,.o (.ag [.ref 4,jn z.Tick,jn z.Seed,.ref 5,.ref 6]))],[.box ((Enc.e r).map (V1.rd [])),.row 1 (els w.Level.Rows),.row 1 (els w.Scores),.row 9 (els w.Bodies),.row 1 (els z.Level.Rows),.row 1 (els z.Scores),.row 9 (els z.Bodies)]⟩ : St)) (W_gj [0,1,2,3,5,6,7] (by kernel_rfl)) ?_
   by_cases hwz : w = z
   ·rw [decide_eq_true hwz] at csw hbd
    refine zx (Qj J J (csw) J) J ?_;refine z5 J (zn J (zpF J (zz (Ql J (Qh (Q1 (Q0 (Qc (z7 J (by omega) (z0 J ?_))))))))));refine zz ?_
    exact ⟨r.Keys.length - (k + 1),by omega,_,⟨k + 1,by omega,tamF_go hp_A hbd,J⟩,W_gj [0] (by kernel_rfl)⟩
   ·rw [decide_eq_false hwz] at csw hbd
    have hx := tam_hit ho (tamF_hit hp_A hbd hlt)
    refine zx (Qj J J (csw) J) J ?_;refine z5 J (zn J (zpF J (zz (Qm J (zy (z0 J (z1 J (zz ?_))))))));refine Xa (B_r (T_r (T_r (B_r (T_r (F_r ?_))))))
    exact Xp J J (X5 [] (by decide) J J (Xx hx.symm))
 ·have hb0 : decide ((k : Int) < (els r.Keys).length) = false := decide_eq_false (by omega)
  have hk : k = r.Keys.length := by omega
  rw [hk] at hp_A
  rw [tam_all ho hp_A]
  refine zy (z9a J (by assumption) (zz (Qd (Ql J (Q9 (T_x (T_x (Xl (Q0 ?_)))))))));refine zy (z1 J (zz (Xa (F_r ?_))))
  exact Xp J J (X5 [] (by decide) J J J)
end
section
open Go.RowKit

theorem split_len (l : List UInt8) : (l.takeWhile zeroB).length + ((l.dropWhile zeroB).takeWhile someB).length + ((l.dropWhile zeroB).dropWhile someB).length = l.length := by
 have h1 := congrArg List.length (List.takeWhile_append_dropWhile (p := zeroB) (l := l))
 have h2 := congrArg List.length (List.takeWhile_append_dropWhile (p := someB) (l := l.dropWhile zeroB))
 rw [List.length_append] at h1 h2
 omega
theorem packZ_len : ∀ (n : Nat) (l : List UInt8),l.length ≤ n → (packZ l).length ≤ 13 * l.length
 | 0,l,h => by
  have : l = [] := List.eq_nil_of_length_eq_zero (by omega)
  subst this
  rw [packZ_nil]
  simp
 | n + 1,[],h => by rw [packZ_nil]; simp
 | n + 1,x :: r,h => by
  have h1 := packZ_ne x r
  have h2 := split_len (x :: r)
  have h3 := Yt (((x :: r).takeWhile zeroB).length : Nat)
  have h4 := Yt ((((x :: r).dropWhile zeroB).takeWhile someB).length : Nat)
  have h5 := packZ_len n (((x :: r).dropWhile zeroB).dropWhile someB) (by omega)
  rw [packZ]
  simp only [List.length_append]
  omega
def deltaT (a b : ByteArray) : ByteArray := bs (encVar b.size) ++ bs (packZ (xorText a b).data.toList)
theorem deltaT_size (a b : ByteArray) : (deltaT a b).size ≤ 6 + 13 * b.size := by
 have h1 := Yt (b.size : Int)
 have h2 := packZ_len _ (xorText a b).data.toList (Nat.le_refl _)
 have h3 : (xorText a b).data.toList.length = b.size := by
  have := xorL_len a b
  have h4 : b.data.toList.length = b.size := by simp
  show ((xorL a b).toArray).toList.length = b.size
  simp
  omega
 rw [deltaT,ByteArray.size_append]
 show ((encVar b.size).toArray).size + ((packZ (xorText a b).data.toList).toArray).size ≤ _
 simp
 omega
theorem I_DeltaText (a b : ByteArray) (ha : a.size ≤ 1048576) (hb : b.size ≤ 1048576) : Con Tryz.prog 20 [] [astr a,astr b] [] (S (deltaT a b)) := by
 have c1 := Xs b.size
 have c2 := I_XorText a b (by omega) (by omega)
 have hx : (xorText a b).size = b.size := by
  have := xorL_len a b
  have h4 : b.data.toList.length = b.size := by simp
  show ((xorL a b).toArray).size = b.size
  simp
  omega
 have c3 := I_PackZeros (xorText a b) (by omega)
 have hsz := deltaT_size a b
 rw [deltaT,ByteArray.size_append] at hsz
 rw [deltaT]
 refine Con.of Tryz.func20 J Tryz.ntmps20 J (fun E => ?_)
 refine zy (z1 J (zz (zy (z0 J (zx (Zy J J J) J ?_)))));refine zx (Qj J J (c1) J) J ?_;refine z0 J (z0 J ?_);refine zx (Qj J J (c2) J) J ?_;refine zx (Qj J J (c3) J) J ?_;refine zx (q_cat J J J J (by omega)) J (z1 J (zz (Xa (F_r ?_))))
 exact Xp J J (X5 [] (by decide) J J J)
end
section
open Go.RowKit

theorem els_snoc {α : Type} [Enc α] {xs : List α} {k : Nat} (h : k < xs.length) : els (xs.take (k + 1)) = els (xs.take k) ++ [Enc.e xs[k]] := by
 rw [List.take_succ_eq_append_getElem h]
 exact List.map_append
theorem I_copyInts (xs : List Int) (hL : xs.length ≤ 1048576) : Con Tryz.prog 75 [] [al xs] [.row 1 (els xs)] (.o (.c (.ref 0))) := by
 have hlx := Yp xs
 refine Con.of Tryz.func75 J Tryz.ntmps75 J (fun E => ?_)
 refine zy (z1 J (zz (zy (z0 J ?_))));refine M_appnil J J J J J J J J (Yq _) (els_k _) (by omega) (by omega) ?_;refine z1 J (zz (Xa (F_r ?_)))
 exact Xp J J (X5 [0] (by decide) J J J)
theorem I_copyRows (xs : List (List Int)) (hg : Enc.gd xs) (hL : xs.length ≤ 1048576) (hr : ∀ r ∈ xs,r.length ≤ 1048576) : Con Tryz.prog 91 [] [al xs] [.row 1 (els xs)] (.o (.c (.ref 0))) := by
 have hlx := Yp xs
 refine Con.of Tryz.func91 J Tryz.ntmps91 J (fun E => ?_)
 refine zy (z1 J (zz (zy (z1 J (zz (Qd (Qd ?_)))))));refine Qc (z0 J (zx (Zw J J J) J (z0 J (zz (Qk ?_)))))
 refine AWP.pre ?_ (W_nil 3 1 J)
 refine A_lq (fun m st => ∃ k : Nat,k + m = xs.length ∧ (True) ∧ st = (⟨_,[(3,.o (.c (.ref 0))),(6,L xs),(7,I (els xs).length),(8,I k)],[.row 1 (els (xs.take k))]⟩ : St)) (xs.length) ⟨_,⟨0,by omega,trivial,J⟩,W_gj [0] (by kernel_rfl)⟩ ?_
 rintro m_A _ ⟨k,hk_A,hp_A,rfl⟩
 have hl2 : (els (xs.take k)).length = k := by rw [Yp]; simp; omega
 refine zy (zx (Z1 J J J J) J (zz (Qd ?_)))
 refine Xb J (fun h => ?_) (fun h => ?_)
 ·have h3 : k < xs.length := by have := of_decide_eq_true h; omega
  have hat := Yo h3
  refine Qh (Q0 (Qd (Qk (zy (zx (Q2 J J J J (by omega) (by assumption) J) J (zx (Z0 J J J J) J (z1 J (zz (Qc ?_)))))))));refine z0 J (z0 J ?_);refine M1 (Zo J J (I_copyInts xs[k] (hr _ (List.getElem_mem h3))) J J J) J J ?_;refine M1 (Zj J J J J J J) J J ?_;refine Xy J J J J J J J J J J J J J J (by omega) (by omega) ?_;refine z1 J (Qe (Q1 (Q0 (Qc (z7 J (by omega) (z0 J (zz ?_)))))))
  exact ⟨xs.length - (k + 1),by omega,(fun k : Nat => (⟨_,[(3,.o (.c (.ref 0))),(6,L xs),(7,I (els xs).length),(8,I k)],[.row 1 (els (xs.take k))]⟩ : St)) (k + 1),⟨k + 1,by omega,trivial,J⟩,X7 [0] (by decide) J (Kc (els_snoc h3)) (.c J (.c J (.c J (.c J (.nil)))))⟩
 ·have h3 : ¬ ((k : Int) < (els xs).length) := of_decide_eq_false h
  have hk : xs.take k = xs := List.take_of_length_le (by omega)
  refine Q9 (T_x (T_x (Xl (Q0 (zy (z0 J (z1 J (zz (Xa ?_)))))))));refine F_r ?_
  exact Xp J J (X5 [0] (by decide) J (Kc (by rw [hk])) J)
theorem I_copyReplay (x : TReplay) (hg : Enc.gd x) (h1 : x.Level.Rows.length ≤ 1048576) (h2 : x.Keys.length ≤ 1048576) (h3 : x.Rows.length ≤ 1048576) (hr : ∀ r ∈ x.Rows,r.length ≤ 1048576) : Con Tryz.prog 43 [] [ag x] (ownO (Enc.e x)) (.o (.ag (ownV 0 (Enc.e x)))) := by
 obtain ⟨g_Level,g_Players,g_Seed,g_Every,g_Rows,g_Keys⟩ := hg
 have hlx := Yp x.Keys
 refine Con.of Tryz.func43 J Tryz.ntmps43 J (fun E => ?_)
 refine zy (M1 (Qq J J J J) J J (M1 (Qx J J J) J J (zz (zy (z2 J J J (z4 J J J ?_))))));refine M1 (Zo J J (Xw x.Level g_Level h1) J J J) J J ?_;refine z2 J J J ?_;refine Qy J J J J J J J J J (zz (zy (z2 J J J (z3 J ?_))));refine M1 (Zo J J (I_copyRows x.Rows g_Rows h3 hr) J J J) J J ?_;refine z2 J J J ?_;refine Q5 J J J J J J J J (zz (zy (z2 J J J (z3 J ?_))));refine M_appnil J J J J J J J J (Yq _) (els_k _) (by omega) (by omega) ?_;refine z2 J J J ?_;refine Q5 J J J J J J J J (zz (zy (z4 J J J ?_)));refine Qy J J J J J J J J J (zz (Xa (F_r ?_)))
 exact Xm J J J J (X5 [2,3,4] (by decide) J J J)
section
variable {P : Program} {ops : Array Oper} {o : Oper} {st : St} {m : Nat} {t e : TypeId} {y z : Operand} {zs : List Value} {by_ : Nat}
end
end
end Go.Proofs.YtbfhboakafjjgaaGreat
