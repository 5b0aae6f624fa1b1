/-
  Parts of the proof (rules, data, and what functions of the program and of the reference return), among them: Scores grow slowly, and a world with one point more is valid; A replay with one key exchanged: what it holds, and where it is told.
  Conditions: those that each theorem names.
-/
import Derived.ChangeKeysEq
import Derived.Test.YtcjclaoogdblbaaGreatDDTampRowk11
import Derived.Test.YtcjclaoogdblbaaGreatDDTampRowk13
import Derived.Test.YtcjclaoogdblbaaGreatDDTampRowk14
import Derived.Test.YtcjclaoogdblbaaGreatDDTampRowk18
import Derived.Test.YtcjclaoogdblbaaGreatDDTampRowk19
import Derived.Test.YtcjclaoogdblbaaGreatDDTampRowk20
set_option linter.unusedSimpArgs false
set_option linter.unusedVariables false
set_option maxRecDepth 8000
set_option maxHeartbeats 8000000
namespace Go.Proofs.YtcjclaoogdblbaaGreat
section
open Go.RowKit

class TyInts (P : Program) (t : TypeId) (n : outParam Nat) : Prop where
 u : P.underlying t = some (.struct (P.fieldsOf t))
 held : P.stoodInHeld t = false
 guard : P.eqGuardType P.depth t = false
 fs : ((P.fieldsOf t).toList.map fun f => (f.name == "_", f.offset, (match P.underlying f.type with | some (.int .i64) => true | _ => false), P.cellsOf f.type)) = (List.range n).map fun i => (false, i, true, 1)
theorem eqInts {P : Program} {w : World} (d : Nat) (xs ys : List Int) (hl : xs.length = ys.length) : ∀ (fs : List Field) (o : Nat), (fs.map fun f => (f.name == "_", f.offset, (match P.underlying f.type with | some (.int .i64) => true | _ => false), P.cellsOf f.type)) = ((List.range xs.length).drop o).map (fun i => (false, i, true, 1)) →
  (Op.eqFields (d + 1) (xs.map (Value.int .i64)).toArray (ys.map (Value.int .i64)).toArray fs).run P w = .ok (decide (xs.drop o = ys.drop o)) w
 | [],o,h => by
  have h1 : ((List.range xs.length).drop o) = [] := by simpa using h.symm
  have h2 : xs.length ≤ o := by simpa using h1
  rw [List.drop_eq_nil_of_le h2,List.drop_eq_nil_of_le (by omega)]
  simp [Op.eqFields]
 | f :: fs,o,h => by
  by_cases ho : o < xs.length
  ·rw [List.drop_eq_getElem_cons (by simpa using ho)] at h
   simp only [List.map_cons,List.cons.injEq,List.getElem_range,Prod.mk.injEq] at h
   obtain ⟨⟨h1,h2,h3,h4⟩,h5⟩ := h
   have hu : P.underlying f.type = some (.int .i64) := by
    split at h3
    ·assumption
    ·cases h3
   have ih := eqInts (w := w) d xs ys hl fs (o + 1) h5
   have hn : f.name ≠ "_" := by simpa using h1
   have hk : P.plainKey f.type = true := by simp [Program.plainKey,hu]
   have p1 : (Go.part f.type (xs.map (Value.int .i64)).toArray f.offset).run P w = .ok (.int .i64 xs[o]) w := run_part_plain w hk (by rw [h2]; simp [ho])
   have p2 : (Go.part f.type (ys.map (Value.int .i64)).toArray f.offset).run P w = .ok (.int .i64 (ys[o]'(by omega))) w := run_part_plain w hk (by rw [h2]; simp [show o < ys.length by omega])
   simp only [Op.eqFields,if_pos hn,Sem.run_bind,p1,p2,Result.andThen_ok,run_equalIn_int w d f.type .i64 .i64 _ _ hu]
   have dx : xs.drop o = xs[o] :: xs.drop (o + 1) := List.drop_eq_getElem_cons ho
   have dy : ys.drop o = ys[o]'(by omega) :: ys.drop (o + 1) := List.drop_eq_getElem_cons (by omega)
   have hd : decide (xs.drop o = ys.drop o) = (decide (xs[o] = ys[o]'(by omega)) && decide (xs.drop (o + 1) = ys.drop (o + 1))) := by
    rw [dx,dy,← Bool.decide_and]
    exact decide_eq_decide.2 (by rw [List.cons.injEq])
   rw [hd]
   by_cases e : xs[o] = ys[o]'(by omega)
   ·rw [decide_eq_true e,Bool.true_and]
    simp [e,ih]
   ·rw [decide_eq_false e,Bool.false_and]
    have e2 : (xs[o] == ys[o]'(by omega)) = false := by simp [e]
    simp [e2]
  ·rw [List.drop_eq_nil_of_le (by simp; omega)] at h
   simp at h
theorem ag_ints {w : World} {H : Hs} {F : Nat → Prop} {ps : List Nat} {cs : List V1} {xs : List Int} {v : Value} (hc : cs = xs.map fun n => V1.rd ps (.v (.int .i64 n))) (h : R2 w H F (.ag cs) v) : v = .agg (xs.map (Value.int .i64)).toArray := by
 obtain ⟨us,rfl,hl,hu⟩ := h
 subst hc
 rw [List.length_map] at hl
 congr 2
 apply List.ext_getElem
 ·simp [hl]
 ·intro i h1 h2
  have h3 := hu i (V1.rd ps (.v (.int .i64 (xs[i]'(by omega))))) us[i] (by simp [show i < xs.length by omega]) (by simp [h1])
  have h4 : RO w (inP H F ps) (.v (.int .i64 (xs[i]'(by omega)))) us[i] := h3
  rw [(RO.plain h4).1]
  simp
section
variable {P : Program} {ops : Array Oper} {o : Oper} {st : St} {m n : Nat} {t t' : TypeId} {y z : Operand} {ps qs : List Nat} {cs ds : List V1} {xs ys : List Int} {b : Bool}
theorem q_aneq [hi : TyInts P t n] (ho : o.op = .binOp .neq t y z t') (hg : o.guard = none) (hy : st.ev y = .o (.ag cs)) (hz : st.ev z = .o (.ag ds)) (hc : cs = xs.map fun n => V1.rd ps (.v (.int .i64 n))) (hd : ds = ys.map fun n => V1.rd qs (.v (.int .i64 n))) (h1 : xs.length = n) (h2 : ys.length = n) (hb : decide (xs ≠ ys) = b) : Qt P ops o st (B b) [] m :=
 .pure hg fun a w H F hr => ⟨.bool b,by
  have e1 := ag_ints (w := w) (H := H) (F := F) hc (by have := hr.ev y; rw [hy] at this; exact this)
  have e2 := ag_ints (w := w) (H := H) (F := F) hd (by have := hr.ev z; rw [hz] at this; exact this)
  have hq := eqInts (P := P) (w := w) 9998 xs ys (by omega) (P.fieldsOf t).toList 0 (by rw [hi.fs,h1]; rfl)
  have hf := run_equalIn_struct (P := P) w 9999 t (xs.map (Value.int .i64)).toArray (ys.map (Value.int .i64)).toArray hi.u hi.held
  rw [hq] at hf
  have hb2 : (!decide (xs = ys)) = b := by rw [← hb]; simp
  simp only [execOp,ho,e1,e2,Sem.run_bind,run_eqGuard_agg w .neq t y z _ _ hi.guard,Result.andThen_ok,run_neq_struct,hf,List.drop_zero,hb2]
  rfl,plainV _ rfl⟩
end
instance : TyInts Tryz.prog 54 9 := ⟨by kernel_rfl,by kernel_rfl,by kernel_rfl,by kernel_rfl⟩
end
section
open Go.RowKit

theorem bi_eq {x y : TBody} (h : x = y) : decide (bodyInts x ≠ bodyInts y) = false := by rw [h]; simp
theorem bi_ne {x y : TBody} (h : ¬ x = y) : decide (bodyInts x ≠ bodyInts y) = true := by
 refine decide_eq_true fun e => h ?_
 cases x
 cases y
 simp only [bodyInts,List.cons.injEq,and_true] at e
 simp only [TBody.mk.injEq]
 exact e
theorem slEqB (xs ys : List TBody) (hn : Enc.gd xs) : Con Tryz.prog 40 [] [al xs,al ys] [] (B (decide (xs = ys))) := by
 have hn1 := hn.1
 have hlx := Yx xs
 have hly := Yx ys
 by_cases hl : xs.length = ys.length
 ·have hb : decide (((els xs).length : Int) ≠ ((els ys).length : Int)) = false := by rw [hlx,hly,hl]; simp
  refine Con.of Tryz.func40 J Tryz.ntmps40 J (fun E => ?_)
  refine zy (z1 J (zz (Qd (zy (z0 J (zx (Kb J J J) J (z0 J (zx (Kb J J J) J ?_))))))));refine Gn J (zz (Ql J (Qh (Q0 (Qd (zy (z0 J (zx (Kb J J J) J (z0 J ?_)))))))));refine zz (Qk ?_);refine Xi (fun m st => ∃ k : Nat,k + m = xs.length ∧ (xs.take k = ys.take k) ∧ st = (⟨_,[(0,L xs),(1,L ys),(12,I (els xs).length),(13,I k)],[]⟩ : St)) (xs.length) ⟨_,⟨0,by omega,by simp,J⟩,Uf []⟩ ?_
  rintro m_A _ ⟨k,hk_A,hp_A,rfl⟩
  refine zy (zx (Vi J) J (zz (Qd ?_)))
  refine Xb J (fun h => ?_) (fun h => ?_)
  ·have h3 : k < xs.length := by have := of_decide_eq_true h; omega
   have h4 : k < ys.length := by omega
   have hat := Yv h3
   have hat2 := Yv h4
   by_cases he : xs[k] = ys[k]
   ·have hb6 := bi_eq he
    refine Qh (Q0 (Qd (Qk (zy (z0 J (z1 J (zz (Qd (Xh u8_38 u8_39 u8_40 J ?_)))))))));refine Ve (Vo J) J (Ve (Vo J) J (Ve (Q2 J J J J (by omega) (by assumption) J) J (Ve (Kg J J J J J) J (Ve (Vo J) J (Ve (Vo J) J (Ve (Q2 J J J J (by omega) (by assumption) J) J (Ve (Kg J J J J J) J ?_)))))));refine Ve (q_aneq (ps := []) (qs := []) (xs := bodyInts xs[k]) (ys := bodyInts ys[k]) J J J J J J J J hb6) J ?_;refine Vd (zz (Ql J (Qh (Q1 (Q0 (Qc (Uh J (z0 J (zz ?_)))))))))
    exact ⟨xs.length - (k + 1),by omega,_,⟨k + 1,by omega,eq_next h3 h4 hp_A he,J⟩,Uf []⟩
   ·have hb6 := bi_ne he
    refine Qh (Q0 (Qd (Qk (zy (z0 J (z1 J (zz (Qd (Xh u8_38 u8_39 u8_40 J ?_)))))))));refine Ve (Vo J) J (Ve (Vo J) J (Ve (Q2 J J J J (by omega) (by assumption) J) J (Ve (Kg J J J J J) J (Ve (Vo J) J (Ve (Vo J) J (Ve (Q2 J J J J (by omega) (by assumption) J) J (Ve (Kg J J J J J) J ?_)))))));refine Ve (q_aneq (ps := []) (qs := []) (xs := bodyInts xs[k]) (ys := bodyInts ys[k]) J J J J J J J J hb6) J ?_;refine Vd (zz (Qm J (zy (z1 J (zz (Xa (B_r (T_r ?_))))))));refine T_r (B_r (T_r (F_r ?_)))
    exact Ud J (Ue [] J J (Xj (eq_ne h3 h4 he).symm))
  ·have h3 : ¬ ((k : Int) < (els xs).length) := of_decide_eq_false h
   refine Q9 (T_x (T_x (Xk (Q0 (zy (z1 J (zz (Xa (F_r ?_)))))))))
   exact Ud J (Ue [] J J (Xj (eq_all (by omega) hl hp_A).symm))
 ·have hb : decide (((els xs).length : Int) ≠ ((els ys).length : Int)) = true := by rw [hlx,hly]; simp; omega
  refine Con.of Tryz.func40 J Tryz.ntmps40 J (fun E => ?_)
  refine zy (z1 J (zz (Qd (zy (z0 J (zx (Kb J J J) J (z0 J (zx (Kb J J J) J ?_))))))));refine Gn J (zz (Qm J (zy (z1 J (zz (Xa (T_r (F_r ?_))))))))
  exact Ud J (Ue [] J J (Xj (eq_len hl).symm))
theorem I_SameWorld (x y : TWorld) (hg : Enc.gd x) : Con Tryz.prog 16 [] [ag x,ag y] [] (B (decide (x = y))) := by
 obtain ⟨g_Level,g_Tick,g_Seed,g_Scores,g_Bodies⟩ := hg
 by_cases e_Level : ¬ x.Level = y.Level
 ·have hc := I_sameLevel x.Level y.Level g_Level
  rw [decide_eq_false e_Level] at hc
  refine Con.of Tryz.func16 J Tryz.ntmps16 J (fun E => ?_)
  refine zy (Un (Gf J) J (Un (Gf J) J (z1 J (zz (zy (Gg J J (Gw J J (Gg J J ?_))))))));refine Gw J J ?_;refine zx (Qj J J (hc) J) J ?_;refine z0 J (z6 J (z6 J (z6 J (z6 J (z6 J (zpF J (z0 J (z6 J (z6 J (z6 J (z6 J ?_)))))))))));refine z6 J (zpF J (z0 J (z6 J (z6 J (z6 J (z6 J (z6 J (zpF J (z0 J (z6 J (z6 J ?_)))))))))));refine z6 J (z6 J (z6 J (zpF J (z1 J (zz (Xa (F_r ?_)))))))
  exact Ud J (Ue [] J J (Xj (decide_eq_false fun e => e_Level (by rw [e])).symm))
 have e_Level := Classical.not_not.1 e_Level
 have hc_Level := I_sameLevel x.Level y.Level g_Level
 rw [decide_eq_true e_Level] at hc_Level
 by_cases e_Tick : ¬ x.Tick = y.Tick
 ·have hk : decide (x.Tick = y.Tick) = false := by simp [e_Tick]
  refine Con.of Tryz.func16 J Tryz.ntmps16 J (fun E => ?_)
  refine zy (Un (Gf J) J (Un (Gf J) J (z1 J (zz (zy (Gg J J (Gw J J (Gg J J ?_))))))));refine Gw J J ?_;refine zx (Qj J J (hc_Level) J) J ?_;refine z0 J (z5 J (Gg J J (z5 J (z3 J (z5 J (Gg J J (z5 J (z3 J (z5 J (Gr J (zpT J ?_)))))))))));refine z0 J (z6 J (z6 J (z6 J (z6 J (z6 J (zpF J (z0 J (z6 J (z6 J (z6 J (z6 J ?_)))))))))));refine z6 J (zpF J (z0 J (z6 J (z6 J (z6 J (z6 J (z6 J (zpF J (z1 J (zz ?_))))))))));refine Xa (F_r ?_)
  exact Ud J (Ue [] J J (Xj (decide_eq_false fun e => e_Tick (by rw [e])).symm))
 have e_Tick := Classical.not_not.1 e_Tick
 have k_Tick : decide (x.Tick = y.Tick) = true := by simp [e_Tick]
 by_cases e_Seed : ¬ x.Seed = y.Seed
 ·have hk : decide (x.Seed = y.Seed) = false := by simp [e_Seed]
  refine Con.of Tryz.func16 J Tryz.ntmps16 J (fun E => ?_)
  refine zy (Un (Gf J) J (Un (Gf J) J (z1 J (zz (zy (Gg J J (Gw J J (Gg J J ?_))))))));refine Gw J J ?_;refine zx (Qj J J (hc_Level) J) J ?_;refine z0 J (z5 J (Gg J J (z5 J (z3 J (z5 J (Gg J J (z5 J (z3 J (z5 J (Gr J (zpT J ?_)))))))))));refine z0 J (z5 J (Gg J J (z5 J (z3 J (z5 J (Gg J J (z5 J (z3 J (z5 J (Gr J (zpT J ?_)))))))))));refine z0 J (z6 J (z6 J (z6 J (z6 J (z6 J (zpF J (z0 J (z6 J (z6 J (z6 J (z6 J ?_)))))))))));refine z6 J (zpF J (z1 J (zz (Xa (F_r ?_)))))
  exact Ud J (Ue [] J J (Xj (decide_eq_false fun e => e_Seed (by rw [e])).symm))
 have e_Seed := Classical.not_not.1 e_Seed
 have k_Seed : decide (x.Seed = y.Seed) = true := by simp [e_Seed]
 by_cases e_Scores : ¬ x.Scores = y.Scores
 ·have hc := slEqI x.Scores y.Scores g_Scores
  rw [decide_eq_false e_Scores] at hc
  refine Con.of Tryz.func16 J Tryz.ntmps16 J (fun E => ?_)
  refine zy (Un (Gf J) J (Un (Gf J) J (z1 J (zz (zy (Gg J J (Gw J J (Gg J J ?_))))))));refine Gw J J ?_;refine zx (Qj J J (hc_Level) J) J ?_;refine z0 J (z5 J (Gg J J (z5 J (z3 J (z5 J (Gg J J (z5 J (z3 J (z5 J (Gr J (zpT J ?_)))))))))));refine z0 J (z5 J (Gg J J (z5 J (z3 J (z5 J (Gg J J (z5 J (z3 J (z5 J (Gr J (zpT J ?_)))))))))));refine z0 J (z5 J (Gg J J (z5 J (z3 J (z5 J (Gg J J (z5 J (z3 J (z5 J ?_)))))))));refine zx (Qj J J (hc) J) J ?_;refine zpT J (z0 J (z6 J (z6 J (z6 J (z6 J (z6 J (zpF J (z1 J (zz (Xa ?_))))))))));refine F_r ?_
  exact Ud J (Ue [] J J (Xj (decide_eq_false fun e => e_Scores (by rw [e])).symm))
 have e_Scores := Classical.not_not.1 e_Scores
 have hc_Scores := slEqI x.Scores y.Scores g_Scores
 rw [decide_eq_true e_Scores] at hc_Scores
 by_cases e_Bodies : ¬ x.Bodies = y.Bodies
 ·have hc := slEqB x.Bodies y.Bodies g_Bodies
  rw [decide_eq_false e_Bodies] at hc
  refine Con.of Tryz.func16 J Tryz.ntmps16 J (fun E => ?_)
  refine zy (Un (Gf J) J (Un (Gf J) J (z1 J (zz (zy (Gg J J (Gw J J (Gg J J ?_))))))));refine Gw J J ?_;refine zx (Qj J J (hc_Level) J) J ?_;refine z0 J (z5 J (Gg J J (z5 J (z3 J (z5 J (Gg J J (z5 J (z3 J (z5 J (Gr J (zpT J ?_)))))))))));refine z0 J (z5 J (Gg J J (z5 J (z3 J (z5 J (Gg J J (z5 J (z3 J (z5 J (Gr J (zpT J ?_)))))))))));refine z0 J (z5 J (Gg J J (z5 J (z3 J (z5 J (Gg J J (z5 J (z3 J (z5 J ?_)))))))));refine zx (Qj J J (hc_Scores) J) J ?_;refine zpT J (z0 J (z5 J (Gg J J (z5 J (z3 J (z5 J (Gg J J (z5 J (z3 J (z5 J ?_))))))))));refine zx (Qj J J (hc) J) J ?_;refine zpT J (z1 J (zz (Xa (F_r ?_))))
  exact Ud J (Ue [] J J (Xj (decide_eq_false fun e => e_Bodies (by rw [e])).symm))
 have e_Bodies := Classical.not_not.1 e_Bodies
 have hc_Bodies := slEqB x.Bodies y.Bodies g_Bodies
 rw [decide_eq_true e_Bodies] at hc_Bodies
 refine Con.of Tryz.func16 J Tryz.ntmps16 J (fun E => ?_)
 refine zy (Un (Gf J) J (Un (Gf J) J (z1 J (zz (zy (Gg J J (Gw J J (Gg J J ?_))))))));refine Gw J J ?_;refine zx (Qj J J (hc_Level) J) J ?_;refine z0 J (z5 J (Gg J J (z5 J (z3 J (z5 J (Gg J J (z5 J (z3 J (z5 J (Gr J (zpT J ?_)))))))))));refine z0 J (z5 J (Gg J J (z5 J (z3 J (z5 J (Gg J J (z5 J (z3 J (z5 J (Gr J (zpT J ?_)))))))))));refine z0 J (z5 J (Gg J J (z5 J (z3 J (z5 J (Gg J J (z5 J (z3 J (z5 J ?_)))))))));refine zx (Qj J J (hc_Scores) J) J ?_;refine zpT J (z0 J (z5 J (Gg J J (z5 J (z3 J (z5 J (Gg J J (z5 J (z3 J (z5 J ?_))))))))));refine zx (Qj J J (hc_Bodies) J) J ?_;refine zpT J (z1 J (zz (Xa (F_r ?_))))
 exact Ud J (Ue [] J J (Xj (decide_eq_true (by cases x; cases y; simp_all)).symm))
theorem S_SameWorld (x y : TWorld) (hg : Enc.gd x) : Con Tryz.prog 11 [] [ag x,ag y] [] (B (decide (x = y))) := by
 obtain ⟨g_Level,g_Tick,g_Seed,g_Scores,g_Bodies⟩ := hg
 have hlx := Yx x.Bodies
 have hly := Yx y.Bodies
 have hnb := g_Bodies.1
 have c1 := S_ints x.Scores y.Scores g_Scores
 have c2 := S_sameLevel x.Level y.Level g_Level
 by_cases n1 : x.Tick = y.Tick
 case neg =>
  have f1 : decide (x.Tick ≠ y.Tick) = true := decide_eq_true n1
  rw [decide_eq_false (fun e : x = y => n1 (by rw [e]))]
  refine Con.of Tryz.func11 J Tryz.ntmps11 J (fun E => ?_)
  refine zy (Un (Gf J) J (Un (Gf J) J (z1 J (zz (Qd (zy (Gg J J (z3 J ?_))))))));refine Gg J J (z3 J (Gn J (z0 J (z6 J (z6 J (z6 J (z6 J (z6 J (zpT J (z0 J (z6 J ?_)))))))))));refine z6 J (z6 J (z6 J (z6 J (z6 J (zpT J (z0 J (z6 J (z6 J (z6 J (z6 J (z6 J ?_)))))))))));refine z6 J (z6 J (zpT J (z0 J (z6 J (z6 J (z6 J (z6 J (z6 J (z6 J (zpT J (Qe ?_)))))))))));refine Q0 (Qm J (zy (z1 J (zz (Xa (T_r (F_r ?_)))))))
  exact Ud J (Ue [] J J J)
 have f1 : decide (x.Tick ≠ y.Tick) = false := decide_eq_false (fun q => q n1)
 by_cases n2 : x.Seed = y.Seed
 case neg =>
  have f2 : decide (x.Seed ≠ y.Seed) = true := decide_eq_true n2
  rw [decide_eq_false (fun e : x = y => n2 (by rw [e]))]
  refine Con.of Tryz.func11 J Tryz.ntmps11 J (fun E => ?_)
  refine zy (Un (Gf J) J (Un (Gf J) J (z1 J (zz (Qd (zy (Gg J J (z3 J ?_))))))));refine Gg J J (z3 J (Gn J (z0 J (z5 J (Gg J J (z5 J (z3 J (z5 J (Gg J J (z5 J (z3 J ?_)))))))))));refine z5 J (Gn J (zpF J (z0 J (z6 J (z6 J (z6 J (z6 J (z6 J (z6 J (zpT J (z0 J ?_)))))))))));refine z6 J (z6 J (z6 J (z6 J (z6 J (z6 J (z6 J (zpT J (z0 J (z6 J (z6 J (z6 J ?_)))))))))));refine z6 J (z6 J (z6 J (zpT J (zz (Qm J (zy (z1 J (zz ?_))))))));refine Xa (T_r (F_r ?_))
  exact Ud J (Ue [] J J J)
 have f2 : decide (x.Seed ≠ y.Seed) = false := decide_eq_false (fun q => q n2)
 by_cases n3 : x.Scores = y.Scores
 case neg =>
  rw [decide_eq_false n3] at c1
  rw [decide_eq_false (fun e : x = y => n3 (by rw [e]))]
  refine Con.of Tryz.func11 J Tryz.ntmps11 J (fun E => ?_)
  refine zy (Un (Gf J) J (Un (Gf J) J (z1 J (zz (Qd (zy (Gg J J (z3 J ?_))))))));refine Gg J J (z3 J (Gn J (z0 J (z5 J (Gg J J (z5 J (z3 J (z5 J (Gg J J (z5 J (z3 J ?_)))))))))));refine z5 J (Gn J (zpF J (z0 J (z5 J (Gg J J (z5 J (z3 J (z5 J (Gg J J (z5 J (z3 J ?_)))))))))));refine z5 J ?_;refine zx (Qj J J (c1) J) J ?_;refine z5 J (zn J (zpF J (z0 J (z6 J (z6 J (z6 J (z6 J (z6 J (z6 J (z6 J (zpT J ?_)))))))))));refine z0 J (z6 J (z6 J (z6 J (z6 J (z6 J (z6 J (zpT J (zz (Qm J (Qd ?_))))))))));refine Qc (z1 J (zz (Xa (T_r (F_r ?_)))))
  exact Ud J (Ue [] J J J)
 rw [decide_eq_true n3] at c1
 by_cases n4 : x.Bodies.length = y.Bodies.length
 case neg =>
  have f4 : decide (((els x.Bodies).length : Int) ≠ ((els y.Bodies).length : Int)) = true := decide_eq_true (by omega)
  rw [decide_eq_false (fun e : x = y => n4 (by rw [e]))]
  refine Con.of Tryz.func11 J Tryz.ntmps11 J (fun E => ?_)
  refine zy (Un (Gf J) J (Un (Gf J) J (z1 J (zz (Qd (zy (Gg J J (z3 J ?_))))))));refine Gg J J (z3 J (Gn J (z0 J (z5 J (Gg J J (z5 J (z3 J (z5 J (Gg J J (z5 J (z3 J ?_)))))))))));refine z5 J (Gn J (zpF J (z0 J (z5 J (Gg J J (z5 J (z3 J (z5 J (Gg J J (z5 J (z3 J ?_)))))))))));refine z5 J ?_;refine zx (Qj J J (c1) J) J ?_;refine z5 J (zn J (zpF J (z0 J (z5 J (Gg J J (z5 J (z3 J (z5 J (zx (Kb J J J) J (z5 J (Gg J J ?_)))))))))));refine z5 J (z3 J (z5 J (zx (Kb J J J) J (z5 J (Gn J (zpF J (z0 J (z6 J (z6 J (z6 J (z6 J ?_)))))))))));refine z6 J (z6 J (zpT J (zz (Qm J (zy (z1 J (zz (Xa ?_))))))));refine T_r (F_r ?_)
  exact Ud J (Ue [] J J J)
 have f4 : decide (((els x.Bodies).length : Int) ≠ ((els y.Bodies).length : Int)) = false := decide_eq_false (by omega)
 by_cases n5 : x.Level = y.Level
 case neg =>
  rw [decide_eq_false n5] at c2
  rw [decide_eq_false (fun e : x = y => n5 (by rw [e]))]
  refine Con.of Tryz.func11 J Tryz.ntmps11 J (fun E => ?_)
  refine zy (Un (Gf J) J (Un (Gf J) J (z1 J (zz (Qd (zy (Gg J J (z3 J ?_))))))));refine Gg J J (z3 J (Gn J (z0 J (z5 J (Gg J J (z5 J (z3 J (z5 J (Gg J J (z5 J (z3 J ?_)))))))))));refine z5 J (Gn J (zpF J (z0 J (z5 J (Gg J J (z5 J (z3 J (z5 J (Gg J J (z5 J (z3 J ?_)))))))))));refine z5 J ?_;refine zx (Qj J J (c1) J) J ?_;refine z5 J (zn J (zpF J (z0 J (z5 J (Gg J J (z5 J (z3 J (z5 J (zx (Kb J J J) J (z5 J (Gg J J ?_)))))))))));refine z5 J (z3 J (z5 J (zx (Kb J J J) J (z5 J (Gn J (zpF J (z0 J (z5 J (Gg J J (z5 J (Gw J J ?_)))))))))));refine z5 J (Gg J J (z5 J (Gw J J (z5 J ?_))));refine zx (Qj J J (c2) J) J ?_;refine z5 J (zn J (zpF J (zz (Qm J (zy (z1 J (zz (Xa ?_))))))));refine T_r (F_r ?_)
  exact Ud J (Ue [] J J J)
 rw [decide_eq_true n5] at c2
 have hxy : decide (x = y) = decide (x.Bodies = y.Bodies) := decide_eq_decide.2 ⟨fun e => by rw [e],fun e => by cases x; cases y; simp_all⟩
 rw [hxy]
 clear hxy
 refine Con.of Tryz.func11 J Tryz.ntmps11 J (fun E => ?_)
 refine zy (Un (Gf J) J (Un (Gf J) J (z1 J (zz (Qd (zy (Gg J J (z3 J ?_))))))));refine Gg J J (z3 J (Gn J (z0 J (z5 J (Gg J J (z5 J (z3 J (z5 J (Gg J J (z5 J (z3 J ?_)))))))))));refine z5 J (Gn J (zpF J (z0 J (z5 J (Gg J J (z5 J (z3 J (z5 J (Gg J J (z5 J (z3 J ?_)))))))))));refine z5 J ?_;refine zx (Qj J J (c1) J) J ?_;refine z5 J (zn J (zpF J (z0 J (z5 J (Gg J J (z5 J (z3 J (z5 J (zx (Kb J J J) J (z5 J (Gg J J ?_)))))))))));refine z5 J (z3 J (z5 J (zx (Kb J J J) J (z5 J (Gn J (zpF J (z0 J (z5 J (Gg J J (z5 J (Gw J J ?_)))))))))));refine z5 J (Gg J J (z5 J (Gw J J (z5 J ?_))));refine zx (Qj J J (c2) J) J ?_;refine z5 J (zn J (zpF J (zz (Ql J (Qh (Q0 (Qd (zy (z1 J ?_)))))))));refine zz (Qk ?_);refine Xi (fun m st => ∃ k : Nat,k + m = x.Bodies.length ∧ (x.Bodies.take k = y.Bodies.take k) ∧ st = (⟨_,[(2,.o (.c (.ptr 0 0))),(3,.o (.c (.ptr 1 0))),(5,I k)],[.box ((Enc.e x).map (V1.rd [])),.box ((Enc.e y).map (V1.rd []))]⟩ : St)) (x.Bodies.length) ⟨_,⟨0,by omega,by simp,J⟩,Uf [0,1]⟩ ?_
 rintro m_A _ ⟨k,hk_A,hp_A,rfl⟩
 by_cases h3 : k < x.Bodies.length
 ·have hb0 : decide ((k : Int) < (els x.Bodies).length) = true := decide_eq_true (by omega)
  have h4 : k < y.Bodies.length := by omega
  have hat := Yv h3
  have hat2 := Yv h4
  by_cases he : x.Bodies[k] = y.Bodies[k]
  ·have hb6 := bi_eq he
   refine Qd (zy (z0 J (Gg J J (z3 J (zx (Kb J J J) J (U1 J (zz (Qm J (Qh ?_)))))))));refine Q0 (Qd (Qk (Qd (Xh u8_43 u8_46 u8_47 J (Ve (Vq J J) J (Ve (Vr J) J (Ve (Vo J) J (Ve (Q2 J J J J (by omega) (by assumption) J) J (Ve (Kg J J J J J) J (Ve (Vq J J) J (Ve (Vr J) J ?_)))))))))));refine Ve (Vo J) J (Ve (Q2 J J J J (by omega) (by assumption) J) J (Ve (Kg J J J J J) J ?_));refine Ve (q_aneq (ps := []) (qs := []) (xs := bodyInts x.Bodies[k]) (ys := bodyInts y.Bodies[k]) J J J J J J J J hb6) J ?_;refine Vd (zz (Ql J (Qh (Q1 (Q0 (Qc (z0 J (Uh J (z1 J (Qe ?_))))))))));refine Q0 ?_
   exact ⟨x.Bodies.length - (k + 1),by omega,_,⟨k + 1,by omega,eq_next h3 h4 hp_A he,J⟩,Uf [0,1]⟩
  ·have hb6 := bi_ne he
   refine Qd (zy (z0 J (Gg J J (z3 J (zx (Kb J J J) J (U1 J (zz (Qm J (Qh ?_)))))))));refine Q0 (Qd (Qk (Qd (Xh u8_43 u8_46 u8_47 J (Ve (Vq J J) J (Ve (Vr J) J (Ve (Vo J) J (Ve (Q2 J J J J (by omega) (by assumption) J) J (Ve (Kg J J J J J) J (Ve (Vq J J) J (Ve (Vr J) J ?_)))))))))));refine Ve (Vo J) J (Ve (Q2 J J J J (by omega) (by assumption) J) J (Ve (Kg J J J J J) J ?_));refine Ve (q_aneq (ps := []) (qs := []) (xs := bodyInts x.Bodies[k]) (ys := bodyInts y.Bodies[k]) J J J J J J J J hb6) J ?_;refine Vd (zz (Qm J (zy (z1 J (zz (Xa (B_r (T_r ?_))))))));refine T_r (B_r (T_r (F_r ?_)))
   exact Ud J (Ue [] J J (Xj (eq_ne h3 h4 he).symm))
 ·have hb0 : decide ((k : Int) < (els x.Bodies).length) = false := decide_eq_false (by omega)
  refine Qd (zy (z0 J (Gg J J (z3 J (zx (Kb J J J) J (U1 J (zz (Ql J (Q9 ?_)))))))));refine T_x (T_x (Xk (Q0 (zy (z1 J (zz (Xa (F_r ?_))))))))
  exact Ud J (Ue [] J J (Xj (eq_all (by omega) n4 hp_A).symm))
end
section
open Go.RowKit

noncomputable def badKey (r : TReplay) (k : Nat) : Bool := !(rwB (keyAt r k) && decide (rwW (keyAt r k) = rwW (playM r (((k : Int) + 1) * r.Every))))
noncomputable def tamF (r : TReplay) : Nat → Option Nat
 | 0 => none
 | n + 1 => match tamF r n with
  | some k => some k
  | none => if badKey r n = true then some n else none
theorem tamF_go {r : TReplay} {k : Nat} (h : tamF r k = none) (hb : badKey r k = false) : tamF r (k + 1) = none := by rw [tamF,h]; simp [hb]
theorem tamF_hit {r : TReplay} {k : Nat} (h : tamF r k = none) (hb : badKey r k = true) : ∀ {n : Nat},k < n → tamF r n = some k
 | n + 1,hlt => by
  rcases Nat.lt_or_ge k n with h1 | h1
  ·rw [tamF,tamF_hit h hb h1]
  ·have : k = n := by omega
   subst this
   rw [tamF,h]; simp [hb]
noncomputable def tamper (r : TReplay) : Int := if replayOk r = true then (match tamF r r.Keys.length with
 | some k => k
 | none => -1) else -1
theorem tam_no {r : TReplay} (h : replayOk r = false) : tamper r = -1 := by rw [tamper,if_neg (by rw [h]; simp)]
theorem tam_hit {r : TReplay} {k : Nat} (h : replayOk r = true) (hk : tamF r r.Keys.length = some k) : tamper r = k := by rw [tamper,if_pos h,hk]
theorem tam_all {r : TReplay} (h : replayOk r = true) (hk : tamF r r.Keys.length = none) : tamper r = -1 := by rw [tamper,if_pos h,hk]
theorem key_range {r : TReplay} (h : replayOk r = true) {k : Nat} (hk : k < r.Keys.length) : 0 ≤ ((k : Int) + 1) * r.Every ∧ ((k : Int) + 1) * r.Every ≤ r.Rows.length := by
 have hr := rok h
 obtain ⟨he,_⟩ := hr.e
 unfold replayOk at h
 simp only [Bool.and_eq_true,decide_eq_true_eq,Za] at h
 obtain ⟨⟨⟨⟨⟨⟨h1,h2⟩,h3⟩,h4⟩,h5⟩,h6⟩,h7⟩ := h
 have hlen : (r.Keys.length : Int) = (r.Rows.length : Int) / r.Every := by omega
 refine ⟨Int.mul_nonneg (by omega) (by omega),?_⟩
 have h8 : ((k : Int) + 1) * r.Every ≤ ((r.Rows.length : Int) / r.Every) * r.Every := Int.mul_le_mul_of_nonneg_right (by omega) (by omega)
 have h9 := Int.ediv_mul_le (r.Rows.length : Int) (b := r.Every) (by omega)
 omega
theorem bad_no {r : TReplay} {k : Nat} (h : keyAt r k = none) : badKey r k = true := by rw [badKey,h]; rfl
theorem bad_at {r : TReplay} {k : Nat} {w z : TWorld} (h : keyAt r k = some w) (h2 : playM r (((k : Int) + 1) * r.Every) = some z) : badKey r k = !decide (w = z) := by rw [badKey,h,h2]; rfl
theorem I_FindTamper (r : TReplay) (hg : Enc.gd r) (ir : RepIn r) (hks : ∀ x ∈ r.Keys,x.size ≤ 1048576) : Con Tryz.prog 6 [] [ag r] [] (I (tamper r)) := by
 have cr := I_ReplayOk r hg
 have hlk := Yx r.Keys
 have hkl := ir.h2
 have hrl := ir.h3
 cases ho : replayOk r with
 | false =>
  rw [ho] at cr
  rw [tam_no ho]
  refine Con.of Tryz.func6 J Tryz.ntmps6 J (fun E => ?_)
  refine zy (Un (Gf J) J (z1 J (zz (Qd (zy (Gw J J ?_))))));refine zx (Qj J J (cr) J) J ?_;refine zn J (zz (Qm J (zy (z1 J (zz (Xa (T_r (F_r ?_))))))))
  exact Ud J (Ue [] J J J)
 | true =>
 rw [ho] at cr
 refine Con.of Tryz.func6 J Tryz.ntmps6 J (fun E => ?_)
 refine zy (Un (Gf J) J (z1 J (zz (Qd (zy (Gw J J ?_))))));refine zx (Qj J J (cr) J) J ?_;refine zn J (zz (Ql J (Qh (Q0 (Qd (zy (Gg J J (z3 J (zx (Kb J J J) J ?_)))))))));refine z0 J (zz (Qk ?_));refine Xi (fun m st => ∃ k : Nat,k + m = r.Keys.length ∧ (tamF r k = none) ∧ st = (⟨_,[(1,.o (.c (.ptr 0 0))),(13,I (els r.Keys).length),(14,I k)],[.box ((Enc.e r).map (V1.rd []))]⟩ : St)) (r.Keys.length) ⟨_,⟨0,by omega,J,J⟩,Uf [0]⟩ ?_
 rintro m_A _ ⟨k,hk_A,hp_A,rfl⟩
 by_cases hlt : k < r.Keys.length
 ·have hb0 : decide ((k : Int) < (els r.Keys).length) = true := decide_eq_true (by omega)
  obtain ⟨hm1,hm2⟩ := key_range ho hlt
  have cka := I_KeyAt r k hg ⟨by omega,by omega⟩ ir hks
  have cpl := I_PlayReplay r (((k : Int) + 1) * r.Every) hg ⟨by omega,by omega⟩ ir
  have hpl := play_yes (r := r) (k := ((k : Int) + 1) * r.Every) ⟨ho,hm1,hm2⟩
  have iz := play_in (k := ((k : Int) + 1) * r.Every) ir
  have iw := keyAt_in (k := (k : Int)) ir
  obtain ⟨z,hz⟩ : ∃ z,playM r (((k : Int) + 1) * r.Every) = some z := ⟨_,hpl⟩
  rw [hz] at cpl iz
  cases hk : keyAt r k with
  | none =>
   rw [hk] at cka
   have hx := tam_hit ho (tamF_hit hp_A (bad_no hk) hlt)
   refine zy (U1 J (zz (Qd (Qm J (Qh (Q0 (Qd (Qk (Qd ?_)))))))));refine Qc (z0 J (z1 J (zz (zy (Gw J J (z0 J ?_))))));refine Un (Z3 J J (cka) J J J) J ?_;refine zx (Ga J) J (ze J (ze J (Un (Gh J J) J ?_)));refine G1 J J (z1 J (zz (zy (Gw J J (z0 J (Uh J (Gg J J (z3 J (zx (Uw J) J ?_)))))))));refine Un (Z3 J J (cpl) J J J) J ?_;refine zx (Ga J) J (ze J (ze J (Un (Gh J J) J ?_)));refine G1 J J (z1 J (zz (zy (z0 J (zn J (z0 J (z6 J (z6 J (zpT J ?_)))))))));refine z0 J (z6 J (z6 J (z6 J (z6 J (zpT J (zz (Qm J (zy (z0 J ?_)))))))));refine z1 J (zz (Xa (B_r (T_r (T_r (B_r (T_r (F_r ?_))))))))
   exact Ud J (Ue [] J J (Xv hx.symm))
  | some w =>
   rw [hk] at cka iw
   have hbd := bad_at hk hz
   have csw := I_SameWorld w z iw.gd
   clear hpl
   refine zy (U1 J (zz (Qd (Qm J (Qh (Q0 (Qd (Qk (Qd ?_)))))))));refine Qc (z0 J (z1 J (zz (zy (Gw J J (z0 J ?_))))));refine Un (Z3 J J (cka) J J J) J ?_;refine zx (Ga J) J (ze J (ze J (Un (Gh J J) J ?_)));refine G1 J J (z1 J (zz (zy (Gw J J (z0 J (Uh J (Gg J J (z3 J (zx (Uw J) J ?_)))))))));refine AL.weak (st' := (⟨_,[(1,.o (.c (.ptr 0 0))),(3,I k),(4,.o (.c (.ptr 4 0))),(5,B true),(13,I (els r.Keys).length),(14,I k),(24,.o (.ag ((Enc.e r).map (V1.rd [])))),(29,I (((k : Int) + 1) * r.Every))],[.box ((Enc.e r).map (V1.rd [])),.row 1 (els w.Level.Rows),.row 1 (els w.Scores),.row 9 (els w.Bodies),.box [.ref 1,jn w.Tick,jn w.Seed,.ref 2,.ref 3]]⟩ : St)) (Uf [0,1,2,3,4]) ?_;refine Un (Z3 J J (cpl) J J J) J ?_;refine zx (Ga J) J (ze J (ze J (Un (Gh J J) J ?_)));refine G1 J J (z1 J (zz (zy (z0 J (zn J (z0 J (z5 J (z0 J (z5 J ?_)))))))));refine zn J (zpF J (z0 J (z5 J (Gw J J (z5 J (Gw J J (z5 J ?_)))))));refine AL.weak (st' := (⟨_,[(1,.o (.c (.ptr 0 0))),(3,I k),(13,I (els r.Keys).length),(14,I k),(39,B false),(40,.o (.ag [.ref 1,jn w.Tick,jn w.Seed,.ref 2,.ref 3])),(41,.o (.ag [.ref 4,jn z.Tick,jn z.Seed,.ref 5,.ref 6]))],[.box ((Enc.e r).map (V1.rd [])),.row 1 (els w.Level.Rows),.row 1 (els w.Scores),.row 9 (els w.Bodies),.row 1 (els z.Level.Rows),.row 1 (els z.Scores),.row 9 (els z.Bodies)]⟩ : St)) (Uf [0,1,2,3,5,6,7]) ?_
   by_cases hwz : w = z
   ·rw [decide_eq_true hwz] at csw hbd
    refine zx (Qj J J (csw) J) J ?_;refine z5 J (zn J (zpF J (zz (Ql J (Qh (Q1 (Q0 (Qc (Uh J (z0 J ?_))))))))));refine zz ?_
    exact ⟨r.Keys.length - (k + 1),by omega,_,⟨k + 1,by omega,tamF_go hp_A hbd,J⟩,Uf [0]⟩
   ·rw [decide_eq_false hwz] at csw hbd
    have hx := tam_hit ho (tamF_hit hp_A hbd hlt)
    refine zx (Qj J J (csw) J) J ?_;refine z5 J (zn J (zpF J (zz (Qm J (zy (z0 J (z1 J (zz ?_))))))));refine Xa (B_r (T_r (T_r (B_r (T_r (F_r ?_))))))
    exact Ud J (Ue [] J J (Xv hx.symm))
 ·have hb0 : decide ((k : Int) < (els r.Keys).length) = false := decide_eq_false (by omega)
  have hk : k = r.Keys.length := by omega
  rw [hk] at hp_A
  rw [tam_all ho hp_A]
  refine zy (U1 J (zz (Qd (Ql J (Q9 (T_x (T_x (Xk (Q0 ?_)))))))));refine zy (z1 J (zz (Xa (F_r ?_))))
  exact Ud J (Ue [] J J J)
end
section
open Go.RowKit

theorem split_len (l : List UInt8) : (l.takeWhile zeroB).length + ((l.dropWhile zeroB).takeWhile someB).length + ((l.dropWhile zeroB).dropWhile someB).length = l.length := by
 have h1 := congrArg List.length (List.takeWhile_append_dropWhile (p := zeroB) (l := l))
 have h2 := congrArg List.length (List.takeWhile_append_dropWhile (p := someB) (l := l.dropWhile zeroB))
 rw [List.length_append] at h1 h2
 omega
theorem packZ_len : ∀ (n : Nat) (l : List UInt8),l.length ≤ n → (packZ l).length ≤ 13 * l.length
 | 0,l,h => by
  have : l = [] := List.eq_nil_of_length_eq_zero (by omega)
  subst this
  rw [packZ_nil]
  simp
 | n + 1,[],h => by rw [packZ_nil]; simp
 | n + 1,x :: r,h => by
  have h1 := packZ_ne x r
  have h2 := split_len (x :: r)
  have h3 := Y2 (((x :: r).takeWhile zeroB).length : Nat)
  have h4 := Y2 ((((x :: r).dropWhile zeroB).takeWhile someB).length : Nat)
  have h5 := packZ_len n (((x :: r).dropWhile zeroB).dropWhile someB) (by omega)
  rw [packZ]
  simp only [List.length_append]
  omega
def deltaT (a b : ByteArray) : ByteArray := bs (encVar b.size) ++ bs (packZ (xorText a b).data.toList)
theorem Yt (a b : ByteArray) : (deltaT a b).size ≤ 6 + 13 * b.size := by
 have h1 := Y2 (b.size : Int)
 have h2 := packZ_len _ (xorText a b).data.toList (Nat.le_refl _)
 have h3 : (xorText a b).data.toList.length = b.size := by
  have := Vc a b
  have h4 : b.data.toList.length = b.size := by simp
  show ((xorL a b).toArray).toList.length = b.size
  simp
  omega
 rw [deltaT,ByteArray.size_append]
 show ((encVar b.size).toArray).size + ((packZ (xorText a b).data.toList).toArray).size ≤ _
 simp
 omega
theorem I_DeltaText (a b : ByteArray) (ha : a.size ≤ 1048576) (hb : b.size ≤ 1048576) : Con Tryz.prog 9 [] [astr a,astr b] [] (S (deltaT a b)) := by
 have c1 := Xs b.size
 have c2 := I_XorText a b (by omega) (by omega)
 have hx : (xorText a b).size = b.size := by
  have := Vc a b
  have h4 : b.data.toList.length = b.size := by simp
  show ((xorL a b).toArray).size = b.size
  simp
  omega
 have c3 := I_PackZeros (xorText a b) (by omega)
 have hsz := Yt a b
 rw [deltaT,ByteArray.size_append] at hsz
 rw [deltaT]
 refine Con.of Tryz.func9 J Tryz.ntmps9 J (fun E => ?_)
 refine zy (z1 J (zz (zy (z0 J (zx (Kd J J J) J ?_)))));refine zx (Qj J J (c1) J) J ?_;refine z0 J (z0 J ?_);refine zx (Qj J J (c2) J) J ?_;refine zx (Qj J J (c3) J) J ?_;refine zx (q_cat J J J J (by omega)) J (z1 J (zz (Xa (F_r ?_))))
 exact Ud J (Ue [] J J J)
theorem S_DeltaText (a b : ByteArray) (ha : a.size ≤ 1048576) (hb : b.size ≤ 1048576) : Con Tryz.prog 72 [] [astr a,astr b] [] (S (deltaT a b)) := by
 have c1 := X3 b.size
 have c2 := S_XorText a b (by omega) (by omega)
 have hx : (xorText a b).size = b.size := by
  have := Vc a b
  have h4 : b.data.toList.length = b.size := by simp
  show ((xorL a b).toArray).size = b.size
  simp
  omega
 have c3 := S_PackZeros (xorText a b) (by omega)
 have hsz := Yt a b
 rw [deltaT,ByteArray.size_append] at hsz
 rw [deltaT]
 refine Con.of Tryz.func72 J Tryz.ntmps72 J (fun E => ?_)
 refine zy (z1 J (zz (zy (z0 J (zx (Kd J J J) J ?_)))));refine zx (Qj J J (c1) J) J ?_;refine z0 J (z0 J ?_);refine zx (Qj J J (c2) J) J ?_;refine zx (Qj J J (c3) J) J ?_;refine zx (q_cat J J J J (by omega)) J (z1 J (zz (Xa (F_r ?_))))
 exact Ud J (Ue [] J J J)
end
section
open Go.RowKit

theorem els_snoc {α : Type} [Enc α] {xs : List α} {k : Nat} (h : k < xs.length) : els (xs.take (k + 1)) = els (xs.take k) ++ [Enc.e xs[k]] := by
 rw [List.take_succ_eq_append_getElem h]
 exact List.map_append
section
variable {P : Program} {ops : Array Oper} {o : Oper} {st : St} {m : Nat} {t e : TypeId} {y z : Operand} {zs : List Value} {by_ : Nat}
theorem q_appz0 {ps : List Nat} {q kk : Nat} [hm : TyMake P t e zs by_] (ho : o.op = .call { callee := .builtin .append,args := #[y,z],argTypes := #[t,t] }) (hg : o.guard = none) (hy : st.ev y = .o (.c (.sb q 0 kk))) (hz : st.ev z = .o (.c (.rd ps (.sl kk [])))) (hkz : kk = zs.length) (hz0 : zs.isEmpty = false) : Qt P ops o st (.o (.c (.sb q 0 kk))) [] m :=
 .pure hg fun a w H F hr => by
  have hzn : zs ≠ [] := by intro e; rw [e] at hz0; cases hz0
  subst hkz
  obtain ⟨g,tt,vs,b1,b2,b3,b4⟩ := hr.v1 hy
  have h7 := src_any (P := P) (t := t) (e := e) (by_ := by_) (kk := zs.length) hr rfl hzn (hr.v1 hz) (es' := []) rfl (fun e he => by simp at he) (fun e he => by simp at he)
  obtain ⟨i,hi,hzz⟩ := Option.map_eq_some_iff.1 hm.info
  simp only [Prod.mk.injEq] at hzz
  have h8 : Src P i.size t (a.eval z) 0 [] w := by rw [hzz.2.1]; simpa [flatV] using h7
  refine ⟨a.eval y,Y3 ho ?_,hr.v1 hy⟩
  rw [b4]
  exact run_append_room_src (P := P) w t t o.type e i hm.slice hi g 0 0 0 (a.eval z) 0 [] h8 (Nat.le_refl _) (by simp) (by simp)
theorem q_appz1 {ps : List Nat} {q kk : Nat} {es' : List (List T)} [hm : TyMake P t e zs by_] (ho : o.op = .call { callee := .builtin .append,args := #[y,z],argTypes := #[t,t] }) (hg : o.guard = none) (hy : st.ev y = .o (.c (.sb q 0 kk))) (hz : st.ev z = .o (.c (.rd ps (.sl kk es')))) (hn : es' = []) (hkz : kk = zs.length) (hz0 : zs.isEmpty = false) : Qt P ops o st (.o (.c (.sb q 0 kk))) [] m := by
 subst hn
 exact q_appz0 ho hg hy hz hkz hz0
end
theorem S_copyReplayE (x : TReplay) (hg : Enc.gd x) (h1 : x.Level.Rows.length ≤ 1048576) (h2 : x.Keys.length ≤ 1048576) (h3 : x.Rows.length ≤ 1048576) (hr : ∀ r ∈ x.Rows,r.length ≤ 1048576) : Con Tryz.prog 55 [] [ag x] (ownO (Enc.e x)) (.o (.ag (ownV 0 (Enc.e x)))) := by
 obtain ⟨g_Level,g_Players,g_Seed,g_Every,g_Rows,g_Keys⟩ := hg
 have hlx := Yx x.Keys
 have hly := Yx x.Rows
 have h00 : ([] : List (List T)).length = 0 := rfl
 refine Con.of Tryz.func55 J Tryz.ntmps55 J (fun E => ?_)
 refine zy (Un (Gf J) J (Un (Gh J J) J (zz (zy (Gw J J (Un (Gh J J) J ?_))))));refine G1 J J (zz (zy (Gg J J (Gw J J ?_))));refine Un (Z3 J J (X6 x.Level g_Level h1) J J J) J ?_;refine Gg J J ?_;refine G1 J J (zz (zy (Gg J J ?_)));refine Gl J (zz (Qd (zy (z1 J (zz (Qk ?_))))))
 refine AWP.pre ?_ (Wk.nilbox (p := 2) (i := 4) 1 J J)
 refine Xi (fun m st => ∃ k : Nat,k + m = x.Rows.length ∧ (True) ∧ st = (⟨_,[(1,.o (.c (.ptr 0 0))),(2,.o (.c (.ptr 1 0))),(3,.o (.c (.ptr 2 0))),(4,I k)],[.box ((Enc.e x).map (V1.rd [])),.box [nilV,jv 0,jv 0,jv 0,nilV,nilV],.box [.ref 3,jv x.Players,jv x.Seed,jv x.Every,.ref 4,.rd [] (sl x.Keys)],.row 1 (els x.Level.Rows),.row 1 (els (x.Rows.take k))]⟩ : St)) (x.Rows.length) ⟨_,⟨0,by omega,trivial,J⟩,Uf [0,1,2,3,4]⟩ ?_
 rintro m_A _ ⟨k,hk_A,hp_A,rfl⟩
 have hl2 : (els (x.Rows.take k)).length = k := by rw [Yx]; simp; omega
 refine Qd (zy (z0 J (Gg J J (z3 J (zx (Kb J J J) J (zx (Vi J) J (zz ?_)))))))
 refine Xb J (fun h => ?_) (fun h => ?_)
 ·have h4 : k < x.Rows.length := by have := of_decide_eq_true h; omega
  obtain ⟨r,hrr⟩ : ∃ r,x.Rows[k] = r := ⟨_,rfl⟩
  have hat := Yv h4
  have hrk := hr _ (List.getElem_mem h4)
  have hsn := els_snoc h4
  rw [hrr] at hat hrk hsn
  have hlk := Yx r
  refine Qh (Q0 (Qd (Qk ?_)))
  cases r with
  | nil =>
   refine Xh u8_48 u8_49 u8_50 J (Ve (Vq J J) J (Ve (Vr J) J (Ve (Zy J J J) J (Ve (Vq J J) J (Ve (Vr J) J (Ve (Vo J) J (Ve (Q2 J J J J (by omega) (by assumption) J) J (Ve (Ug J) J ?_))))))));refine Ve (q_appz0 J J J J J J) J ?_;refine Ve (Uo J J) J (Vd ?_);refine AL.weak (Wk.sbrow (q := 5) (es := []) J J (Nat.le_of_ble_eq_true J)) ?_;refine Xw J J J J J J J J J J J J J J (by omega) (by omega) ?_;refine Gg J J ?_;refine Gl J (Qe (Q1 (Q0 (Qc (z0 J (Uh J (z1 J (zz ?_))))))))
   exact ⟨x.Rows.length - (k + 1),by omega,_,⟨k + 1,by omega,trivial,J⟩,(by rw [hsn]; exact Uf [0,1,2,3,4])⟩
  | cons a rs =>
   have hpos : 0 < (els (a :: rs)).length := by rw [Yx]; simp
   refine Xh u8_48 u8_49 u8_50 J (Ve (Vq J J) J (Ve (Vr J) J (Ve (Zy J J J) J (Ve (Vq J J) J (Ve (Vr J) J (Ve (Vo J) J (Ve (Q2 J J J J (by omega) (by assumption) J) J (Ve (Ug J) J ?_))))))));refine Ve (q_appz J J J J J J (Yy _) (els_k _) hpos (by omega) (by omega)) J ?_;refine Ve (Uo J J) J (Vd ?_);refine Xw J J J J J J J J J J J J J J (by omega) (by omega) ?_;refine Gg J J ?_;refine Gl J (Qe (Q1 (Q0 (Qc (z0 J (Uh J (z1 J (zz ?_))))))))
   exact ⟨x.Rows.length - (k + 1),by omega,_,⟨k + 1,by omega,trivial,J⟩,(by rw [hsn]; exact Uf [0,1,2,3,4])⟩
 ·have hk : x.Rows.take k = x.Rows := List.take_of_length_le (by have := of_decide_eq_false h; omega)
  rw [hk]
  refine Q9 (T_x (T_x (Xk (Q0 (zy (Un (Zx J J J) J (Gg J J (z3 J ?_))))))));refine M_app J J J J J J J J J J (Yy _) (els_k _) (by omega) (by omega) ?_;refine Gg J J ?_;refine Gl J (zz (zy (Gw J J ?_)));refine G1 J J (zz (Xa (F_r ?_)))
  exact Xl J J J J (Ue [3,4,5] J J J)
end
section
open Go.RowKit

noncomputable def addOne (r : TReplay) (row : List Int) (last w : TWorld) : TReplay :=
 ⟨r.Level,r.Players,r.Seed,r.Every,r.Rows ++ [row],if ((r.Rows.length : Int) + 1) % r.Every = 0 then r.Keys ++ [deltaT (worldBytes last) (worldBytes (stepW w row))] else r.Keys⟩
noncomputable def addTo (r : TReplay) (row : List Int) : Option TWorld → Option TWorld → TReplay × Bool
 | some last,some w => if replayOk (addOne r row last w) = true then (addOne r row last w,true) else (r,false)
 | _,_ => (r,false)
noncomputable def addRow (r : TReplay) (row : List Int) : TReplay × Bool := addTo r row (keyAt r ((r.Keys.length : Int) - 1)) (seekM r r.Rows.length)
theorem addTo_n (r : TReplay) (row : List Int) (x : Option TWorld) : addTo r row none x = (r,false) := rfl
theorem addTo_s (r : TReplay) (row : List Int) (x : Option TWorld) : addTo r row x none = (r,false) := by cases x <;> rfl
theorem addTo_b (r : TReplay) (row : List Int) (last w : TWorld) : addTo r row (some last) (some w) = if replayOk (addOne r row last w) = true then (addOne r row last w,true) else (r,false) := rfl
section
variable {r : TReplay} {row : List Int} {last w : TWorld}
theorem add_key (h : keyAt r ((r.Keys.length : Int) - 1) = none) : addRow r row = (r,false) := by
 unfold addRow
 rw [h]
 exact addTo_n _ _ _
theorem add_seek (h : seekM r r.Rows.length = none) : addRow r row = (r,false) := by
 unfold addRow
 rw [h]
 exact addTo_s _ _ _
theorem add_no (h1 : keyAt r ((r.Keys.length : Int) - 1) = some last) (h2 : seekM r r.Rows.length = some w) (h : replayOk (addOne r row last w) = false) : addRow r row = (r,false) := by
 unfold addRow
 rw [h1,h2,addTo_b]
 exact if_neg (by rw [h]; exact Bool.false_ne_true)
theorem add_yes (h1 : keyAt r ((r.Keys.length : Int) - 1) = some last) (h2 : seekM r r.Rows.length = some w) (h : replayOk (addOne r row last w) = true) : addRow r row = (addOne r row last w,true) := by
 unfold addRow
 rw [h1,h2,addTo_b]
 exact if_pos h
end
theorem add_gd {r : TReplay} {row : List Int} {last w : TWorld} (hg : Enc.gd r) (gr : Enc.gd row) (h1 : r.Keys.length ≤ 1048576) (h3 : r.Rows.length ≤ 1048576) : Enc.gd (addOne r row last w) := by
 obtain ⟨g_Level,g_Players,g_Seed,g_Every,g_Rows,g_Keys⟩ := hg
 refine ⟨g_Level,g_Players,g_Seed,g_Every,⟨?_,fun x hx => ?_⟩,?_⟩
 ·simp only [addOne,List.length_append,List.length_singleton]; omega
 ·rcases List.mem_append.1 hx with h | h
  ·exact g_Rows.2 x h
  ·rw [List.mem_singleton] at h; subst h; exact gr
 ·simp only [addOne]
  split
  ·refine ⟨by rw [List.length_append,List.length_singleton]; omega,fun x hx => ?_⟩
   rcases List.mem_append.1 hx with h | h
   ·exact g_Keys.2 x h
   ·rw [List.mem_singleton] at h
    subst h
    have h5 := Yt (worldBytes last) (worldBytes (stepW w row))
    have h6 := Yp (stepW w row)
    show (deltaT _ _).size ≤ 9223372036854775807
    omega
  ·exact g_Keys
theorem rows_tot : ∀ {xs : List (List Int)},tot xs ≤ 1048576 → ∀ x ∈ xs,x.length ≤ 1048576
 | [],_,x,hx => by cases hx
 | y :: ys,h,x,hx => by
  have h2 : tot (y :: ys) = y.length + tot ys := by simp [tot]
  rcases List.mem_cons.1 hx with e | e
  ·subst e; omega
  ·exact rows_tot (xs := ys) (by omega) x e
theorem rw_4 {a b c d : Ob} {t : List Ob} {k : Nat} {x y : List (List T)} (h : x = y) : a :: b :: c :: d :: Ob.row k x :: t = a :: b :: c :: d :: Ob.row k y :: t := by rw [h]
end
section
open Go.RowKit

theorem S_AddRow (r : TReplay) (row : List Int) (hg : Enc.gd r) (gr : Enc.gd row) (ir : RepIn r) (hrow : row.length ≤ 1048576) (hks : ∀ x ∈ r.Keys,x.size ≤ 1048576) : Con Tryz.prog 56 [] [ag r,al row] (ownO (Enc.e (addRow r row).1)) (.tu [.ag (ownV 0 (Enc.e (addRow r row).1)),.c (bv (addRow r row).2)]) := by
 have hlr := Yx r.Rows
 have hlk := Yx r.Keys
 have hrt := rows_tot ir.h4
 have cc := S_copyReplayE r hg ir.h1 ir.h2 ir.h3 hrt
 have hkl := ir.h2
 have hrl := ir.h3
 have ck := S_KeyAt r (((els r.Keys).length : Int) - 1) hg ⟨by omega,by omega⟩ ir hks
 have cse := S_SeekReplay r ((els r.Rows).length : Int) hg ⟨by omega,by omega⟩ ir hks
 have ik := keyAt_in (k := ((els r.Keys).length : Int) - 1) ir
 have is_ := seek_in (t := ((els r.Rows).length : Int)) ir
 rw [hlk] at ik
 rw [hlr] at is_
 rw [show keyAt r (((els r.Keys).length : Int) - 1) = keyAt r ((r.Keys.length : Int) - 1) by rw [hlk]] at ck
 rw [show seekM r ((els r.Rows).length : Int) = seekM r (r.Rows.length : Int) by rw [hlr]] at cse
 cases hs : seekM r (r.Rows.length : Int) with
 | none =>
  rw [hs] at cse
  rw [add_seek hs]
  generalize rwW (keyAt r ((r.Keys.length : Int) - 1)) = lw at ck
  generalize rwB (keyAt r ((r.Keys.length : Int) - 1)) = lb at ck
  refine Con.of Tryz.func56 J Tryz.ntmps56 J (fun E => ?_)
  refine zy (Un (Gf J) J (Un (Gh J J) J (z1 J (zz (zy (Gw J J ?_))))));refine Un (Z3 J J (cc) J J J) J ?_;refine Un (Gh J J) J ?_;refine G1 J J (zz (zy (Gg J J (z3 J (zx (Kb J J J) J (z1 J (zz (Qd ?_))))))));refine Qc (Gw J J (z0 J ?_));refine Un (Z3 J J (cse) J J J) J ?_;refine zx (Ga J) J (ze J (ze J (Un (Gh J J) J ?_)));refine G1 J J (z1 J (zz (zy (Gw J J (Gg J J (z3 J (zx (Kb J J J) J (Ux J ?_))))))));refine Un (Z3 J J (ck) J J J) J ?_;refine zx (Ga J) J (ze J (ze J (Un (Gh J J) J ?_)));refine G1 J J (z1 J (zz (Qd (zy (z0 J (zn J (z0 J (z6 J (z6 J ?_)))))))));refine zpT J (zz (Qm J (zy (Gw J J ?_))));refine G1 J J (z1 J (zz (Xa (T_r (F_r ?_)))))
  exact G7 J J (Ue [2,3,4] J J J)
 | some w =>
 rw [hs] at cse is_
 have iw : WorIn w := is_
 refine Con.of Tryz.func56 J Tryz.ntmps56 J (fun E => ?_)
 refine zy (Un (Gf J) J (Un (Gh J J) J (z1 J (zz (zy (Gw J J ?_))))));refine Un (Z3 J J (cc) J J J) J ?_;refine Un (Gh J J) J ?_;refine G1 J J (zz (zy (Gg J J (z3 J (zx (Kb J J J) J (z1 J (zz (Qd ?_))))))));refine Qc (Gw J J (z0 J ?_));refine Un (Z3 J J (cse) J J J) J ?_;refine zx (Ga J) J (ze J (ze J (Un (Gh J J) J ?_)));refine G1 J J (z1 J (zz (zy (Gw J J (Gg J J (z3 J (zx (Kb J J J) J (Ux J ?_))))))));refine AL.weak (st' := (⟨_,[(1,L row),(2,.o (.c (.ptr 0 0))),(4,.o (.c (.ptr 1 0))),(6,.o (.c (.ptr 5 0))),(7,I ((els r.Rows).length : Int)),(8,.o (.c (.ptr 9 0))),(9,B true),(24,.o (.ag ((Enc.e r).map (V1.rd [])))),(28,I (((els r.Keys).length : Int) - 1))],[.box ((Enc.e r).map (V1.rd [])),.box [nilV,jn 0,jn 0,jn 0,nilV,nilV],.row 1 (els r.Level.Rows),.row 1 (els r.Rows),.row 1 (els r.Keys),.box [.ref 2,jn r.Players,jn r.Seed,jn r.Every,.ref 3,.ref 4],.row 1 (els w.Level.Rows),.row 1 (els w.Scores),.row 9 (els w.Bodies),.box [.ref 6,jn w.Tick,jn w.Seed,.ref 7,.ref 8]]⟩ : St)) (Uf [0,1,2,3,4,5,6,7,8,9]) ?_
 clear cse
 cases hk : keyAt r ((r.Keys.length : Int) - 1) with
 | none =>
  rw [hk] at ck
  rw [add_key hk]
  refine Un (Z3 J J (ck) J J J) J ?_;refine zx (Ga J) J (ze J (ze J (Un (Gh J J) J ?_)));refine G1 J J (z1 J (zz (Qd (zy (z0 J (zn J (z0 J (z5 J (z0 J ?_)))))))));refine z5 J (zn J (zpF J (zz (Qm J (zy (Gw J J ?_))))));refine G1 J J (z1 J (zz (Xa (T_r (F_r ?_)))))
  exact G7 J J (Ue [2,3,4] J J J)
 | some last =>
 rw [hk] at ck ik
 have ho : replayOk r = true := by
  cases h : replayOk r with
  | true => rfl
  | false => rw [keyAt_bad (fun q => by rw [q.1] at h; cases h)] at hk; cases hk
 have wl := X5 last ik.gd
 refine Un (Z3 J J (ck) J J J) J ?_;refine zx (Ga J) J (ze J (ze J (Un (Gh J J) J ?_)));refine G1 J J (z1 J (zz (Qd (zy (z0 J (zn J (z0 J (z5 J (z0 J ?_)))))))));refine z5 J (zn J (zpF J (zz (Ql J (Qh (Q0 (Qd ?_)))))))
 refine AWP.pre (st' := (⟨_,[(1,L row),(2,.o (.c (.ptr 0 0))),(4,.o (.c (.ptr 1 0))),(6,.o (.c (.ptr 5 0))),(7,I ((els r.Rows).length : Int)),(8,.o (.c (.ptr 9 0))),(10,.o (.c (.ptr 13 0)))],[.box ((Enc.e r).map (V1.rd [])),.box [nilV,jn 0,jn 0,jn 0,nilV,nilV],.row 1 (els r.Level.Rows),.row 1 (els r.Rows),.row 1 (els r.Keys),.box [.ref 2,jn r.Players,jn r.Seed,jn r.Every,.ref 3,.ref 4],.row 1 (els w.Level.Rows),.row 1 (els w.Scores),.row 9 (els w.Bodies),.box [.ref 6,jn w.Tick,jn w.Seed,.ref 7,.ref 8],.row 1 (els last.Level.Rows),.row 1 (els last.Scores),.row 9 (els last.Bodies),.box [.ref 10,jn last.Tick,jn last.Seed,.ref 11,.ref 12]]⟩ : St)) ?_ (Uf [0,1,2,3,4,5,6,7,8,9,10,11,12,13])
 clear ck
 have hlrow := Yx row
 by_cases hnil : els row = []
 ·have hrn : row = [] := by cases row with
   | nil => rfl
   | cons a b => simp [els] at hnil
  refine Xh u8_10 u8_51 u8_52 J (Ve (Vq J J) J (Ve (Vr J) J (Ve (Zy J J J) J (Ve (Vo J) J ?_))));refine Ve (q_appz1 J J J J hnil J J) J ?_;refine Ve (Uo J J) J (Vd ?_);refine AL.weak (Wk.sbrow (q := 14) (es := []) J J (Nat.le_of_ble_eq_true J)) ?_;refine Xw J J J J J J J J J J J J J J (by omega) (by omega) ?_;refine Gg J J ?_;refine Gl J (zz (Qd (zy (z0 J (Uh J (Gg J J (z3 J ?_)))))))
  refine AL.weak (st' := (⟨_,[(1,L row),(2,.o (.c (.ptr 0 0))),(4,.o (.c (.ptr 1 0))),(6,.o (.c (.ptr 5 0))),(7,I ((els r.Rows).length : Int)),(8,.o (.c (.ptr 9 0))),(10,.o (.c (.ptr 13 0))),(48,I (((els r.Rows).length : Int) + 1)),(50,I r.Every)],[.box ((Enc.e r).map (V1.rd [])),.box [nilV,jn 0,jn 0,jn 0,nilV,nilV],.row 1 (els r.Level.Rows),.row 1 (els (r.Rows ++ [row])),.row 1 (els r.Keys),.box [.ref 2,jn r.Players,jn r.Seed,jn r.Every,.ref 3,.ref 4],.row 1 (els w.Level.Rows),.row 1 (els w.Scores),.row 9 (els w.Bodies),.box [.ref 6,jn w.Tick,jn w.Seed,.ref 7,.ref 8],.row 1 (els last.Level.Rows),.row 1 (els last.Scores),.row 9 (els last.Bodies),.box [.ref 10,jn last.Tick,jn last.Seed,.ref 11,.ref 12]]⟩ : St)) (by rw [hrn,Yu]; exact Uf [0,1,2,3,4,5,6,7,8,9,10,11,12,13]) ?_
  obtain ⟨he1,he2⟩ := (rok ho).e
  have gdy := add_gd (last := last) (w := w) hg gr hkl hrl
  have hln : ((els r.Rows).length : Int) + 1 = (r.Rows.length : Int) + 1 := by rw [hlr]
  by_cases hq : ((r.Rows.length : Int) + 1) % r.Every = 0
  case neg =>
   have f3 : decide ((((els r.Rows).length : Int) + 1) % r.Every = 0) = false := decide_eq_false (by rw [hln]; exact hq)
   have hy : addOne r row last w = ⟨r.Level,r.Players,r.Seed,r.Every,r.Rows ++ [row],r.Keys⟩ := by rw [addOne,if_neg hq]
   rw [hy] at gdy
   have cy := X4 _ gdy
   refine zx (Ul J) J (Gr J (zz (Ql J (Qh (Q0 (Qd (zy (Gw J J ?_))))))));refine AL.weak (st' := (⟨_,[(1,L row),(2,.o (.c (.ptr 0 0))),(4,.o (.c (.ptr 1 0))),(6,.o (.c (.ptr 5 0))),(7,I ((els r.Rows).length : Int)),(65,.o (.ag [.ref 2,jn r.Players,jn r.Seed,jn r.Every,.ref 3,.ref 4]))],[.box ((Enc.e r).map (V1.rd [])),.box [nilV,jn 0,jn 0,jn 0,nilV,nilV],.row 1 (els r.Level.Rows),.row 1 (els (r.Rows ++ [row])),.row 1 (els r.Keys),.box [.ref 2,jn r.Players,jn r.Seed,jn r.Every,.ref 3,.ref 4]]⟩ : St)) (Uf [0,1,2,3,4,5]) ?_
   cases hok : replayOk (⟨r.Level,r.Players,r.Seed,r.Every,r.Rows ++ [row],r.Keys⟩ : TReplay) with
   | true =>
    rw [hok] at cy
    rw [add_yes hk hs (by rw [hy]; exact hok),hy]
    refine zx (Qj J J (cy) J) J ?_;refine zn J (zz (Ql J (Qh (Q0 (zy (Gw J J ?_))))));refine G1 J J (z1 J (zz (Xa (F_r ?_))))
    exact G7 J J (Ue [2,3,4] J J J)
   | false =>
    rw [hok] at cy
    rw [add_no hk hs (by rw [hy]; exact hok)]
    refine zx (Qj J J (cy) J) J ?_;refine zn J (zz (Qm J (zy (Gw J J ?_))));refine Un (Z3 J J (cc) J J J) J ?_;refine G1 J J (z1 J (zz (Xa (T_r (F_r ?_)))))
    exact G7 J J (Ue [6,7,8] J J J)
  have f3 : decide ((((els r.Rows).length : Int) + 1) % r.Every = 0) = true := decide_eq_true (by rw [hln]; exact hq)
  have cst := S_StepWorld w row iw.gd gr iw.h1 iw.h2 iw.h3
  have hlv := K2 w row
  have hy : addOne r row last w = ⟨r.Level,r.Players,r.Seed,r.Every,r.Rows ++ [row],r.Keys ++ [deltaT (worldBytes last) (worldBytes (stepW w row))]⟩ := by rw [addOne,if_pos hq]
  rw [hy] at gdy
  have cy := X4 _ gdy
  have wz := X5 (stepW w row) (K1 iw.gd).1
  have hb1 := Yp last
  have hb2 := Yp (stepW w row)
  have cd := S_DeltaText (worldBytes last) (worldBytes (stepW w row)) (by omega) (by omega)
  rw [← hlv] at cst
  generalize stepW w row = z at cst hy gdy cy wz cd hb2
  obtain ⟨D,hD⟩ : ∃ D,D = deltaT (worldBytes last) (worldBytes z) := ⟨_,rfl⟩
  rw [← hD] at hy gdy cy cd
  refine zx (Ul J) J (Gr J (zz (Qm J ?_)))
  refine AWP.pre (st' := (⟨_,[(1,L row),(2,.o (.c (.ptr 0 0))),(4,.o (.c (.ptr 1 0))),(6,.o (.c (.ptr 5 0))),(7,I ((els r.Rows).length : Int)),(8,.o (.c (.ptr 9 0))),(10,.o (.c (.ptr 13 0)))],[.box ((Enc.e r).map (V1.rd [])),.box [nilV,jn 0,jn 0,jn 0,nilV,nilV],.row 1 (els r.Level.Rows),.row 1 (els (r.Rows ++ [row])),.row 1 (els r.Keys),.box [.ref 2,jn r.Players,jn r.Seed,jn r.Every,.ref 3,.ref 4],.row 1 (els w.Level.Rows),.row 1 (els w.Scores),.row 9 (els w.Bodies),.box [.ref 6,jn w.Tick,jn w.Seed,.ref 7,.ref 8],.row 1 (els last.Level.Rows),.row 1 (els last.Scores),.row 9 (els last.Bodies),.box [.ref 10,jn last.Tick,jn last.Seed,.ref 11,.ref 12]]⟩ : St)) ?_ (Uf [0,1,2,3,4,5,6,7,8,9,10,11,12,13])
  refine Xh u8_53 u8_54 u8_55 J (Ve (Vq J J) J (Ve (Vr J) J (Ve (Vs J J) J ?_)));refine Ve (Qj J J (wl) J) J ?_;refine Ve (Vs J J) J (Ve (Vo J) J ?_);refine Ve (Z3 J J (cst) J J J) J ?_;refine Ve (Qj J J (wz) J) J ?_;refine Ve (Qj J J (cd) J) J ?_;refine Ve (Uo J J) J (Vd ?_);refine AL.weak (st' := (⟨_,[(1,L row),(2,.o (.c (.ptr 0 0))),(4,.o (.c (.ptr 1 0))),(6,.o (.c (.ptr 5 0))),(7,I ((els r.Rows).length : Int)),(54,.o (.c (.ref 4))),(62,.o (.c (.sb 6 1 1)))],[.box ((Enc.e r).map (V1.rd [])),.box [nilV,jn 0,jn 0,jn 0,nilV,nilV],.row 1 (els r.Level.Rows),.row 1 (els (r.Rows ++ [row])),.row 1 (els r.Keys),.box [.ref 2,jn r.Players,jn r.Seed,jn r.Every,.ref 3,.ref 4],.box [.rd [] (.v (.string D))]]⟩ : St)) (Uf [0,1,2,3,4,5,17]) ?_;refine Xw J J J J J J J J J J J J J J (by omega) (by omega) ?_;refine Gg J J ?_;refine Gl J (zz (Qd (zy (Gw J J ?_))))
  refine AL.weak (st' := (⟨_,[(1,L row),(2,.o (.c (.ptr 0 0))),(4,.o (.c (.ptr 1 0))),(6,.o (.c (.ptr 5 0))),(7,I ((els r.Rows).length : Int)),(65,.o (.ag [.ref 2,jn r.Players,jn r.Seed,jn r.Every,.ref 3,.ref 4]))],[.box ((Enc.e r).map (V1.rd [])),.box [nilV,jn 0,jn 0,jn 0,nilV,nilV],.row 1 (els r.Level.Rows),.row 1 (els (r.Rows ++ [row])),.row 1 (els (r.Keys ++ [D])),.box [.ref 2,jn r.Players,jn r.Seed,jn r.Every,.ref 3,.ref 4]]⟩ : St)) (Yb [0,1,2,3,4,5] (by decide) J ((by exact rw_4 (by rw [Yu]; rfl))) (.c J (.c J (.c J (.c J (.c J (.c J (.nil)))))))) ?_
  cases hok : replayOk (⟨r.Level,r.Players,r.Seed,r.Every,r.Rows ++ [row],(r.Keys ++ [D])⟩ : TReplay) with
  | true =>
   rw [hok] at cy
   rw [add_yes hk hs (by rw [hy]; exact hok),hy]
   refine zx (Qj J J (cy) J) J ?_;refine zn J (zz (Ql J (Qh (Q0 (zy (Gw J J ?_))))));refine G1 J J (z1 J (zz (Xa (F_r ?_))))
   exact G7 J J (Ue [2,3,4] J J J)
  | false =>
   rw [hok] at cy
   rw [add_no hk hs (by rw [hy]; exact hok)]
   refine zx (Qj J J (cy) J) J ?_;refine zn J (zz (Qm J (zy (Gw J J ?_))));refine Un (Z3 J J (cc) J J J) J ?_;refine G1 J J (z1 J (zz (Xa (T_r (F_r ?_)))))
   exact G7 J J (Ue [6,7,8] J J J)
 ·have hpos : 0 < (els row).length := by
   rcases Nat.eq_zero_or_pos (els row).length with h | h
   ·exact absurd (List.eq_nil_of_length_eq_zero h) hnil
   ·exact h
  refine Xh u8_10 u8_51 u8_52 J (Ve (Vq J J) J (Ve (Vr J) J (Ve (Zy J J J) J (Ve (Vo J) J ?_))));refine Ve (q_appz J J J J J J (Yy _) (els_k _) hpos (by omega) (by omega)) J ?_;refine Ve (Uo J J) J (Vd ?_);refine Xw J J J J J J J J J J J J J J (by omega) (by omega) ?_;refine Gg J J ?_;refine Gl J (zz (Qd (zy (z0 J (Uh J (Gg J J (z3 J ?_)))))))
  refine AL.weak (st' := (⟨_,[(1,L row),(2,.o (.c (.ptr 0 0))),(4,.o (.c (.ptr 1 0))),(6,.o (.c (.ptr 5 0))),(7,I ((els r.Rows).length : Int)),(8,.o (.c (.ptr 9 0))),(10,.o (.c (.ptr 13 0))),(48,I (((els r.Rows).length : Int) + 1)),(50,I r.Every)],[.box ((Enc.e r).map (V1.rd [])),.box [nilV,jn 0,jn 0,jn 0,nilV,nilV],.row 1 (els r.Level.Rows),.row 1 (els (r.Rows ++ [row])),.row 1 (els r.Keys),.box [.ref 2,jn r.Players,jn r.Seed,jn r.Every,.ref 3,.ref 4],.row 1 (els w.Level.Rows),.row 1 (els w.Scores),.row 9 (els w.Bodies),.box [.ref 6,jn w.Tick,jn w.Seed,.ref 7,.ref 8],.row 1 (els last.Level.Rows),.row 1 (els last.Scores),.row 9 (els last.Bodies),.box [.ref 10,jn last.Tick,jn last.Seed,.ref 11,.ref 12]]⟩ : St)) (by rw [Yu]; exact Uf [0,1,2,3,4,5,6,7,8,9,10,11,12,13]) ?_
  obtain ⟨he1,he2⟩ := (rok ho).e
  have gdy := add_gd (last := last) (w := w) hg gr hkl hrl
  have hln : ((els r.Rows).length : Int) + 1 = (r.Rows.length : Int) + 1 := by rw [hlr]
  by_cases hq : ((r.Rows.length : Int) + 1) % r.Every = 0
  case neg =>
   have f3 : decide ((((els r.Rows).length : Int) + 1) % r.Every = 0) = false := decide_eq_false (by rw [hln]; exact hq)
   have hy : addOne r row last w = ⟨r.Level,r.Players,r.Seed,r.Every,r.Rows ++ [row],r.Keys⟩ := by rw [addOne,if_neg hq]
   rw [hy] at gdy
   have cy := X4 _ gdy
   refine zx (Ul J) J (Gr J (zz (Ql J (Qh (Q0 (Qd (zy (Gw J J ?_))))))));refine AL.weak (st' := (⟨_,[(1,L row),(2,.o (.c (.ptr 0 0))),(4,.o (.c (.ptr 1 0))),(6,.o (.c (.ptr 5 0))),(7,I ((els r.Rows).length : Int)),(65,.o (.ag [.ref 2,jn r.Players,jn r.Seed,jn r.Every,.ref 3,.ref 4]))],[.box ((Enc.e r).map (V1.rd [])),.box [nilV,jn 0,jn 0,jn 0,nilV,nilV],.row 1 (els r.Level.Rows),.row 1 (els (r.Rows ++ [row])),.row 1 (els r.Keys),.box [.ref 2,jn r.Players,jn r.Seed,jn r.Every,.ref 3,.ref 4]]⟩ : St)) (Uf [0,1,2,3,4,5]) ?_
   cases hok : replayOk (⟨r.Level,r.Players,r.Seed,r.Every,r.Rows ++ [row],r.Keys⟩ : TReplay) with
   | true =>
    rw [hok] at cy
    rw [add_yes hk hs (by rw [hy]; exact hok),hy]
    refine zx (Qj J J (cy) J) J ?_;refine zn J (zz (Ql J (Qh (Q0 (zy (Gw J J ?_))))));refine G1 J J (z1 J (zz (Xa (F_r ?_))))
    exact G7 J J (Ue [2,3,4] J J J)
   | false =>
    rw [hok] at cy
    rw [add_no hk hs (by rw [hy]; exact hok)]
    refine zx (Qj J J (cy) J) J ?_;refine zn J (zz (Qm J (zy (Gw J J ?_))));refine Un (Z3 J J (cc) J J J) J ?_;refine G1 J J (z1 J (zz (Xa (T_r (F_r ?_)))))
    exact G7 J J (Ue [6,7,8] J J J)
  have f3 : decide ((((els r.Rows).length : Int) + 1) % r.Every = 0) = true := decide_eq_true (by rw [hln]; exact hq)
  have cst := S_StepWorld w row iw.gd gr iw.h1 iw.h2 iw.h3
  have hlv := K2 w row
  have hy : addOne r row last w = ⟨r.Level,r.Players,r.Seed,r.Every,r.Rows ++ [row],r.Keys ++ [deltaT (worldBytes last) (worldBytes (stepW w row))]⟩ := by rw [addOne,if_pos hq]
  rw [hy] at gdy
  have cy := X4 _ gdy
  have wz := X5 (stepW w row) (K1 iw.gd).1
  have hb1 := Yp last
  have hb2 := Yp (stepW w row)
  have cd := S_DeltaText (worldBytes last) (worldBytes (stepW w row)) (by omega) (by omega)
  rw [← hlv] at cst
  generalize stepW w row = z at cst hy gdy cy wz cd hb2
  obtain ⟨D,hD⟩ : ∃ D,D = deltaT (worldBytes last) (worldBytes z) := ⟨_,rfl⟩
  rw [← hD] at hy gdy cy cd
  refine zx (Ul J) J (Gr J (zz (Qm J ?_)))
  refine AWP.pre (st' := (⟨_,[(1,L row),(2,.o (.c (.ptr 0 0))),(4,.o (.c (.ptr 1 0))),(6,.o (.c (.ptr 5 0))),(7,I ((els r.Rows).length : Int)),(8,.o (.c (.ptr 9 0))),(10,.o (.c (.ptr 13 0)))],[.box ((Enc.e r).map (V1.rd [])),.box [nilV,jn 0,jn 0,jn 0,nilV,nilV],.row 1 (els r.Level.Rows),.row 1 (els (r.Rows ++ [row])),.row 1 (els r.Keys),.box [.ref 2,jn r.Players,jn r.Seed,jn r.Every,.ref 3,.ref 4],.row 1 (els w.Level.Rows),.row 1 (els w.Scores),.row 9 (els w.Bodies),.box [.ref 6,jn w.Tick,jn w.Seed,.ref 7,.ref 8],.row 1 (els last.Level.Rows),.row 1 (els last.Scores),.row 9 (els last.Bodies),.box [.ref 10,jn last.Tick,jn last.Seed,.ref 11,.ref 12]]⟩ : St)) ?_ (Uf [0,1,2,3,4,5,6,7,8,9,10,11,12,13])
  refine Xh u8_53 u8_54 u8_55 J (Ve (Vq J J) J (Ve (Vr J) J (Ve (Vs J J) J ?_)));refine Ve (Qj J J (wl) J) J ?_;refine Ve (Vs J J) J (Ve (Vo J) J ?_);refine Ve (Z3 J J (cst) J J J) J ?_;refine Ve (Qj J J (wz) J) J ?_;refine Ve (Qj J J (cd) J) J ?_;refine Ve (Uo J J) J (Vd ?_);refine AL.weak (st' := (⟨_,[(1,L row),(2,.o (.c (.ptr 0 0))),(4,.o (.c (.ptr 1 0))),(6,.o (.c (.ptr 5 0))),(7,I ((els r.Rows).length : Int)),(54,.o (.c (.ref 4))),(62,.o (.c (.sb 6 1 1)))],[.box ((Enc.e r).map (V1.rd [])),.box [nilV,jn 0,jn 0,jn 0,nilV,nilV],.row 1 (els r.Level.Rows),.row 1 (els (r.Rows ++ [row])),.row 1 (els r.Keys),.box [.ref 2,jn r.Players,jn r.Seed,jn r.Every,.ref 3,.ref 4],.box [.rd [] (.v (.string D))]]⟩ : St)) (Uf [0,1,2,3,4,5,17]) ?_;refine Xw J J J J J J J J J J J J J J (by omega) (by omega) ?_;refine Gg J J ?_;refine Gl J (zz (Qd (zy (Gw J J ?_))))
  refine AL.weak (st' := (⟨_,[(1,L row),(2,.o (.c (.ptr 0 0))),(4,.o (.c (.ptr 1 0))),(6,.o (.c (.ptr 5 0))),(7,I ((els r.Rows).length : Int)),(65,.o (.ag [.ref 2,jn r.Players,jn r.Seed,jn r.Every,.ref 3,.ref 4]))],[.box ((Enc.e r).map (V1.rd [])),.box [nilV,jn 0,jn 0,jn 0,nilV,nilV],.row 1 (els r.Level.Rows),.row 1 (els (r.Rows ++ [row])),.row 1 (els (r.Keys ++ [D])),.box [.ref 2,jn r.Players,jn r.Seed,jn r.Every,.ref 3,.ref 4]]⟩ : St)) (Yb [0,1,2,3,4,5] (by decide) J ((by exact rw_4 (by rw [Yu]; rfl))) (.c J (.c J (.c J (.c J (.c J (.c J (.nil)))))))) ?_
  cases hok : replayOk (⟨r.Level,r.Players,r.Seed,r.Every,r.Rows ++ [row],(r.Keys ++ [D])⟩ : TReplay) with
  | true =>
   rw [hok] at cy
   rw [add_yes hk hs (by rw [hy]; exact hok),hy]
   refine zx (Qj J J (cy) J) J ?_;refine zn J (zz (Ql J (Qh (Q0 (zy (Gw J J ?_))))));refine G1 J J (z1 J (zz (Xa (F_r ?_))))
   exact G7 J J (Ue [2,3,4] J J J)
  | false =>
   rw [hok] at cy
   rw [add_no hk hs (by rw [hy]; exact hok)]
   refine zx (Qj J J (cy) J) J ?_;refine zn J (zz (Qm J (zy (Gw J J ?_))));refine Un (Z3 J J (cc) J J J) J ?_;refine G1 J J (z1 J (zz (Xa (T_r (F_r ?_)))))
   exact G7 J J (Ue [6,7,8] J J J)
end
section
open Go.RowKit

theorem tot_le4 : ∀ (xs : List (List Int)),(∀ x ∈ xs,x.length ≤ 4) → tot xs ≤ 4 * xs.length
 | [],_ => by simp [tot]
 | y :: ys,h => by
  have h1 := tot_le4 ys fun x hx => h x (by simp [hx])
  have h2 : tot (y :: ys) = y.length + tot ys := by simp [tot]
  have h3 := h y (by simp)
  simp only [List.length_cons]
  omega
theorem ok_in {y : TReplay} (gy : Enc.gd y) (h1 : y.Level.Rows.length ≤ 1048576) (h : replayOk y = true) : RepIn y := by
 have hr := rok h
 unfold replayOk at h
 simp only [Bool.and_eq_true,decide_eq_true_eq,Za] at h
 obtain ⟨⟨⟨⟨⟨⟨_,h2⟩,_⟩,_⟩,h5⟩,h6⟩,_⟩ := h
 have h7 := tot_le4 y.Rows fun x hx => by
  have h8 := List.all_eq_true.1 h6 x hx
  rw [rowOk,Bool.and_eq_true,decide_eq_true_eq] at h8
  omega
 exact ⟨gy,h1,Nat.le_trans hr.k (by decide),Nat.le_trans h5 (by decide),by omega⟩
def KeysIn (y : TReplay) : Prop := ∀ s ∈ y.Keys,s.size ≤ 1048576
theorem add_both {x : TReplay} {row : List Int} (ix : RepIn x) (gr : Enc.gd row) (hk : KeysIn x) : RepIn (addRow x row).1 ∧ KeysIn (addRow x row).1 := by
 have hbad : ∀ p : TReplay × Bool,p = (x,false) → RepIn p.1 ∧ KeysIn p.1 := fun p hp => by rw [hp]; exact ⟨ix,hk⟩
 cases h1 : keyAt x ((x.Keys.length : Int) - 1) with
 | none => exact hbad _ (add_key h1)
 | some last =>
  cases hs : seekM x x.Rows.length with
  | none => exact hbad _ (add_seek hs)
  | some w =>
   cases ho : replayOk (addOne x row last w) with
   | false => exact hbad _ (add_no h1 hs ho)
   | true =>
    rw [add_yes h1 hs ho]
    refine ⟨ok_in (add_gd ix.gd gr ix.h2 ix.h3) ix.h1 ho,fun s hm => ?_⟩
    simp only [addOne] at hm
    split at hm
    ·rcases List.mem_append.1 hm with h | h
     ·exact hk s h
     ·rw [List.mem_singleton] at h
      subst h
      have h5 := Yt (worldBytes last) (worldBytes (stepW w row))
      have h6 := Yp (stepW w row)
      omega
    ·exact hk s hm
noncomputable def addsG (r : TReplay) (rows : List (List Int)) : Nat → Option TReplay
 | 0 => some r
 | k + 1 => match addsG r rows k with
  | none => none
  | some x => match rows[k]? with
   | none => some x
   | some row => if (addRow x row).2 = true then some (addRow x row).1 else none
theorem adds_go {r x : TReplay} {rows : List (List Int)} {row : List Int} {k : Nat} (h : addsG r rows k = some x) (hr : rows[k]? = some row) (hb : (addRow x row).2 = true) : addsG r rows (k + 1) = some (addRow x row).1 := by
 rw [addsG,h]
 simp only [hr]
 exact if_pos hb
theorem adds_no {r x : TReplay} {rows : List (List Int)} {row : List Int} {k : Nat} (h : addsG r rows k = some x) (hr : rows[k]? = some row) (hb : (addRow x row).2 = false) : ∀ {n : Nat},k < n → addsG r rows n = none
 | n + 1,hlt => by
  rcases Nat.lt_or_ge k n with h1 | h1
  ·rw [addsG,adds_no h hr hb h1]
  ·have : k = n := by omega
   subst this
   rw [addsG,h]
   simp only [hr]
   exact if_neg (by rw [hb]; exact Bool.false_ne_true)
noncomputable def addsM (r : TReplay) (rows : List (List Int)) : TReplay × Bool := match addsG r rows rows.length with
 | none => (r,false)
 | some x => (x,true)
theorem adds_F {r : TReplay} {rows : List (List Int)} (h : addsG r rows rows.length = none) : addsM r rows = (r,false) := by rw [addsM,h]
theorem adds_T {r x : TReplay} {rows : List (List Int)} (h : addsG r rows rows.length = some x) : addsM r rows = (x,true) := by rw [addsM,h]
theorem S_AddRows (r : TReplay) (rows : List (List Int)) (gr : Enc.gd rows) (ir : RepIn r) (hw : ∀ row ∈ rows,row.length ≤ 1048576) (hks : KeysIn r) : Con Tryz.prog 32 [] [ag r,al rows] (ownO (Enc.e (addsM r rows).1)) (.tu [.ag (ownV 0 (Enc.e (addsM r rows).1)),.c (bv (addsM r rows).2)]) := by
 have cc := S_copyReplayE r ir.gd ir.h1 ir.h2 ir.h3 (rows_tot ir.h4)
 have hlr := Yx rows
 have hlg := gr.1
 refine Con.of Tryz.func32 J Tryz.ntmps32 J (fun E => ?_)
 refine zy (Un (Gf J) J (Un (Gh J J) J (z1 J (zz (zy (Gw J J ?_))))));refine Un (Z3 J J (cc) J J J) J ?_;refine Un (Gh J J) J ?_;refine G1 J J (zz (Qd (zy (z1 J (zz (Qk ?_))))))
 refine AWP.pre (st' := (⟨_,[(1,L rows),(2,.o (.c (.ptr 0 0))),(4,.o (.c (.ptr 1 0))),(6,.o (.c (.ptr 2 0))),(7,I 0)],[.box ((Enc.e r).map (V1.rd [])),.box [nilV,jn 0,jn 0,jn 0,nilV,nilV],.box [.ref 3,jn r.Players,jn r.Seed,jn r.Every,.ref 4,.ref 5],.row 1 (els r.Level.Rows),.row 1 (els r.Rows),.row 1 (els r.Keys)]⟩ : St)) ?_ (Uf [0,1,5,2,3,4])
 refine Xi (fun m st => ∃ (k : Nat) (x : TReplay),k + m = rows.length ∧ (addsG r rows k = some x ∧ RepIn x ∧ KeysIn x) ∧ st = (⟨_,[(1,L rows),(2,.o (.c (.ptr 0 0))),(4,.o (.c (.ptr 1 0))),(6,.o (.c (.ptr 2 0))),(7,I k)],[.box ((Enc.e r).map (V1.rd [])),.box [nilV,jn 0,jn 0,jn 0,nilV,nilV],.box [.ref 3,jn x.Players,jn x.Seed,jn x.Every,.ref 4,.ref 5],.row 1 (els x.Level.Rows),.row 1 (els x.Rows),.row 1 (els x.Keys)]⟩ : St)) (rows.length) ⟨_,⟨0,r,by omega,⟨J,ir,hks⟩,J⟩,Uf [0,1,2,3,4,5]⟩ ?_
 rintro m_A _ ⟨k,x,hk_A,hp_A,rfl⟩
 obtain ⟨hx,ix,kx⟩ := hp_A
 by_cases hlt : k < rows.length
 ·have hb0 : decide ((k : Int) < (els rows).length) = true := decide_eq_true (by omega)
  obtain ⟨row,hr⟩ := K0 hlt
  have hm := List.mem_of_getElem? hr
  have her := Yz hr
  have ca := S_AddRow x row ix.gd (gr.2 row hm) ix (hw row hm) kx
  have hin := add_both ix (gr.2 row hm) kx
  cases hb : (addRow x row).2 with
  | false =>
   rw [hb] at ca
   rw [adds_F (adds_no hx hr hb hlt)]
   generalize (addRow x row).1 = z at ca
   refine Qd (zy (z0 J (z0 J (zx (Kb J J J) J (U1 J (zz (Qm J (Qh (Q0 ?_)))))))));refine Qd (Qk (Qd (Xh u8_56 u8_57 u8_58 J (Ve (Vs J J) J (Ve (Vo J) J (Ve (Vo J) J (Ve (Q2 J J J J (by omega) (by assumption) J) J (Ve (Ug J) J ?_))))))));refine Ve (Z3 J J (ca) J J J) J ?_;refine Ve (Ga J) J (Ve (Z6 J J J J) J (Ve (Z6 J J J J) J (Ve (Gh J J) J (Vd ?_))));refine G1 J J (z1 J (zz (Qd (zy (z0 J (zn J (zz (Qm J ?_))))))));refine zy (Gw J J ?_);refine Un (Z3 J J (cc) J J J) J ?_;refine G1 J J (z1 J (zz (Xa (T_r (B_r (T_r (T_r (B_r (T_r (F_r ?_))))))))))
   exact G7 J J (Ue [10,11,12] J J J)
  | true =>
   have hgo := adds_go hx hr hb
   rw [hb] at ca
   generalize (addRow x row).1 = z at ca hin hgo
   refine Qd (zy (z0 J (z0 J (zx (Kb J J J) J (U1 J (zz (Qm J (Qh (Q0 ?_)))))))));refine Qd (Qk (Qd (Xh u8_56 u8_57 u8_58 J (Ve (Vs J J) J (Ve (Vo J) J (Ve (Vo J) J (Ve (Q2 J J J J (by omega) (by assumption) J) J (Ve (Ug J) J ?_))))))));refine Ve (Z3 J J (ca) J J J) J ?_;refine Ve (Ga J) J (Ve (Z6 J J J J) J (Ve (Z6 J J J J) J (Ve (Gh J J) J (Vd ?_))));refine G1 J J (z1 J (zz (Qd (zy (z0 J (zn J (zz (Ql J ?_))))))));refine Qh (Q0 (Qc (Gw J J ?_)));refine G1 J J (Qe (Q1 (Q0 (Qc (z0 J (Uh J (z1 J (zz ?_))))))))
   exact ⟨rows.length - (k + 1),by omega,_,⟨k + 1,z,by omega,⟨hgo,hin.1,hin.2⟩,J⟩,Uf [0,1,2,6,7,8]⟩
 ·have hb0 : decide ((k : Int) < (els rows).length) = false := decide_eq_false (by omega)
  have hk : k = rows.length := by omega
  rw [hk] at hx
  rw [adds_T hx]
  refine Qd (zy (z0 J (z0 J (zx (Kb J J J) J (U1 J (zz (Ql J (Q9 (T_x ?_)))))))));refine T_x (Xk (Q0 (zy (Gw J J ?_))));refine G1 J J (z1 J (zz (Xa (F_r ?_))))
  exact G7 J J (Ue [3,4,5] J J J)
end
section
open Go.RowKit

theorem tw_zero : ∀ l : List UInt8,List.replicate (l.takeWhile zeroB).length 0 = l.takeWhile zeroB
 | [] => rfl
 | x :: l => by
  rw [List.takeWhile_cons]
  split
  ·rename_i h
   have : x = 0 := by simpa [zeroB] using h
   subst this
   rw [List.length_cons,List.replicate_succ,tw_zero l]
  ·rfl
theorem uz_pack (s : ByteArray) (hL : s.size ≤ 1099511627775) : ∀ (N : Nat) (l : List UInt8) (f pos : Nat) (out : List UInt8),l.length ≤ N → out.length + l.length ≤ 20000 → s.data.toList.drop pos = packZ l → s.size ≤ pos + f → uzGo s true f pos out = some (out ++ l) := by
 intro N
 induction N with
 | zero =>
  intro l f pos out hN hl hd hf
  have : l = [] := List.length_eq_zero_iff.1 (by omega)
  subst this
  rw [packZ_nil] at hd
  have hlen := congrArg List.length hd
  rw [List.length_drop] at hlen
  simp only [List.length_nil,Array.length_toList] at hlen
  have h3 : s.data.size = s.size := rfl
  rw [uz_end (by omega),List.append_nil]
 | succ N ih =>
  intro l f pos out hN hl hd hf
  match l with
  | [] => exact ih [] f pos out (by simp) hl hd hf
  | x :: r =>
   have hsl := split_len (x :: r)
   have hne := packZ_ne x r
   rw [packZ,List.append_assoc] at hd
   generalize hz : ((x :: r).takeWhile zeroB) = z at hd hsl hne
   generalize hd2 : ((x :: r).dropWhile zeroB) = d at hd hsl hne
   have hxr : x :: r = z ++ d := by rw [← hz,← hd2,List.takeWhile_append_dropWhile]
   have hzr : List.replicate z.length 0 = z := by rw [← hz]; exact tw_zero _
   have hdd : d = d.takeWhile someB ++ d.dropWhile someB := List.takeWhile_append_dropWhile.symm
   have h3 : s.data.size = s.size := rfl
   simp only [List.length_cons] at hN hl hsl
   have hb : (0 : Int) ≤ (z.length : Nat) ∧ ((z.length : Nat) : Int) ≤ 1099511627775 := by omega
   have h1 := Yr hb.1 hb.2 hd
   have hpos := encVar_pos hb
   have hd3 := drop_more hd
   have h2 := unpackText_enc hL hd3
   have hlt : pos < s.size := by
    have hlen := congrArg List.length hd
    rw [List.length_drop,List.length_append] at hlen
    simp only [Array.length_toList] at hlen
    omega
   cases f with
   | zero => omega
   | succ f =>
    have hts : (bs (d.takeWhile someB)).size = (d.takeWhile someB).length := Ym _
    rw [uz_step hlt h1 (by rw [Int.natCast_add] at h2; exact h2) (by rw [hts]; omega) (fun _ h => hne ⟨by omega,by rw [hts] at h; omega⟩)]
    rw [Int.toNat_natCast,hzr,Yl]
    have hd4 := drop_more hd3
    rw [List.length_append] at hd4
    have := ih (d.dropWhile someB) f (pos + (encVar ((z.length : Nat) : Int)).length + ((encVar (((d.takeWhile someB).length : Nat) : Int)).length + (d.takeWhile someB).length)) (out ++ z ++ d.takeWhile someB) (by omega) (by rw [List.length_append,List.length_append]; omega) hd4 (by omega)
    rw [this,hxr]
    conv => rhs; rw [hdd]
    simp [List.append_assoc]
theorem unpackZ_pack {l : List UInt8} (hl : l.length ≤ 20000) : unpackZ true (bs (packZ l)) = some (bs l) := by
 have h1 := packZ_len l.length l (Nat.le_refl _)
 have h := uz_pack (bs (packZ l)) (by rw [Ym]; omega) l.length l (bs (packZ l)).size 0 [] (Nat.le_refl _) (by simpa using hl) (by rw [Yl,List.drop_zero]) (by omega)
 rw [unpackZ,h]
 simp
theorem xor8 (x : UInt8) (n : Int) (hn : 0 ≤ n ∧ n ≤ 255) : UInt8.ofNat ((UInt8.ofNat (x.toNat ^^^ n.toNat)).toNat ^^^ n.toNat) = x := by
 have h1 : x.toNat ^^^ n.toNat < 2 ^ 8 := Nat.xor_lt_two_pow x.toNat_lt (by omega)
 have h2 : (UInt8.ofNat (x.toNat ^^^ n.toNat)).toNat = x.toNat ^^^ n.toNat := by
  rw [UInt8.toNat_ofNat']
  exact Nat.mod_eq_of_lt h1
 rw [h2,Nat.xor_assoc,Nat.xor_self,Nat.xor_zero]
 simp
theorem xor_xor (a b : ByteArray) : xorText a (xorText a b) = b := by
 have hs := xor_size a b
 conv => rhs; rw [← bs_of b]
 conv => lhs; rw [xorText]
 congr 2
 have hlb : b.data.toList.length = b.size := by simp
 have hx : (xorText a b).data.toList = xorL a b := by rw [xorText,Yl]
 have hl1 := Vc a b
 have hl2 := Vc a (xorText a b)
 rw [hx] at hl2
 apply List.ext_getElem
 ·omega
 ·intro i h1 h2
  rw [xorL_at h1 (by rw [hx]; omega)]
  have h3 : (xorText a b).data.toList[i]'(by rw [hx]; omega) = xorB a i b.data.toList[i] := by
   have : (xorText a b).data.toList[i]'(by rw [hx]; omega) = (xorL a b)[i]'(by omega) := by congr 1
   rw [this]; exact xorL_at (by omega) h2
  rw [h3]
  unfold xorB
  split
  ·exact xor8 _ _ (Yn a i)
  ·rfl
theorem delta_back {a b : ByteArray} (hb : b.size ≤ 20000) : applyD a (deltaT a b) = some b := by
 have hd : (deltaT a b).data.toList = encVar (b.size : Nat) ++ packZ (xorText a b).data.toList := by rw [deltaT,ByteArray.data_append,Array.toList_append,Yl,Yl]
 have h1 : decVar (deltaT a b) ((0 : Nat) : Int) = _ := Yr (n := ((b.size : Nat) : Int)) (by omega) (by omega) (by rw [List.drop_zero]; exact hd)
 have hx : (xorText a b).data.toList.length ≤ 20000 := by
  have := xor_size a b
  have h2 : (xorText a b).data.toList.length = (xorText a b).size := by simp
  omega
 have he : (deltaT a b).extract (encVar ((b.size : Nat) : Int)).length (deltaT a b).size = bs (packZ (xorText a b).data.toList) := by
  have h3 := extract_list (deltaT a b) (encVar ((b.size : Nat) : Int)).length (deltaT a b).size
  rw [← bs_of ((deltaT a b).extract (encVar ((b.size : Nat) : Int)).length (deltaT a b).size),h3,hd,List.drop_left,List.take_of_length_le]
  have h4 : (deltaT a b).data.toList.length = (deltaT a b).size := by simp
  rw [hd,List.length_append] at h4
  omega
 rw [applyD,show (0 : Int) = ((0 : Nat) : Int) from rfl,h1]
 simp only
 rw [he,unpackZ_pack hx]
 simp only
 rw [bs_of,if_pos (by rw [xor_size]),xor_xor]
/-! ### The lockstep worlds -/
section
variable {l : TLevel} {n : Nat} {seed : Int} {e : Nat} {rows : List (List Int)}
noncomputable def keysK (l : TLevel) (n : Nat) (seed : Int) (e : Nat) (rows : List (List Int)) (c : Nat) : List ByteArray := (List.range c).map fun j => deltaT (worldBytes (lockW l n seed rows (j * e))) (worldBytes (lockW l n seed rows ((j + 1) * e)))
noncomputable def replK (l : TLevel) (n : Nat) (seed : Int) (e : Nat) (rows : List (List Int)) (k : Nat) : TReplay := ⟨l,n,seed,e,rows.take k,keysK l n seed e rows (k / e)⟩
theorem Zg (c : Nat) : (keysK l n seed e rows c).length = c := by simp [keysK]
theorem keysK_at {c j : Nat} (h : j < c) : (keysK l n seed e rows c)[j]? = some (deltaT (worldBytes (lockW l n seed rows (j * e))) (worldBytes (lockW l n seed rows ((j + 1) * e)))) := by
 rw [keysK,List.getElem?_map,List.getElem?_range h]
 rfl
theorem RD.text (h : RD l n seed e rows) (c : Nat) : ∀ j,j ≤ c → keyText (worldBytes (newWorld l n seed)) (keysK l n seed e rows c) j = some (worldBytes (lockW l n seed rows (j * e)))
 | 0,_ => by rw [keyText,Nat.zero_mul,lockW_zero]
 | j + 1,hj => by
  rw [Zb (RD.text h c j (by omega)) (keysK_at (by omega))]
  exact delta_back (Yp _)
theorem RD.ok (h : RD l n seed e rows) {k : Nat} (hk : k ≤ rows.length) : replayOk (replK l n seed e rows k) = true := by
 have hL := h.hL
 have he := h.he
 have hlen : (rows.take k).length = k := by rw [List.length_take]; omega
 unfold replayOk replK
 simp only [Bool.and_eq_true,decide_eq_true_eq,Za]
 refine ⟨⟨⟨⟨⟨⟨h.hl,by have := h.hn; omega⟩,Za.1 h.hs⟩,by omega⟩,by omega⟩,List.all_eq_true.2 fun r hr => h.hr r (List.mem_of_mem_take hr)⟩,?_⟩
 rw [Zg,hlen]
 rfl
theorem RD.key (h : RD l n seed e rows) {k : Nat} (hk : k ≤ rows.length) {j : Int} (hj : -1 ≤ j ∧ j < (k / e : Nat)) : keyAt (replK l n seed e rows k) j = some (lockW l n seed rows ((j + 1).toNat * e)) := by
 have he := h.he
 have hok := h.ok hk
 have hkl : (replK l n seed e rows k).Keys.length = k / e := Zg _
 rw [keyAt_all ⟨hok,hj.1,by rw [hkl]; exact hj.2⟩]
 have hn : (replK l n seed e rows k).Players.toNat = n := Int.toNat_natCast n
 obtain ⟨c,hc⟩ : ∃ c : Nat,(j + 1).toNat = c := ⟨_,rfl⟩
 rw [hc]
 have hck : c ≤ k / e := by omega
 have hce : c * e ≤ k := Nat.le_trans (Nat.mul_le_mul_right e hck) (Nat.div_mul_le_self k e)
 have hg := h.good (c * e)
 have htk : (rows.take (c * e)).length = c * e := by rw [List.length_take]; omega
 have hb := world_back hg.1
 rw [hg.2.2.1] at hb
 refine Zf (s := worldBytes (lockW l n seed rows (c * e))) ?_ hb ⟨?_,?_⟩
 ·rw [hn]; exact h.text _ c hck
 ·rw [hg.2.1,htk]; show ((c * e : Nat) : Int) = (c : Int) * (e : Int); omega
 ·rw [hg.2.2.2]; rfl
theorem RD.seek (h : RD l n seed e rows) {k t : Nat} (hk : k ≤ rows.length) (ht : t ≤ k) : seekM (replK l n seed e rows k) t = some (lockW l n seed rows t) := by
 have he := h.he
 have hok := h.ok hk
 have hlen : (rows.take k).length = k := by rw [List.length_take]; omega
 have hdv : ((t : Int) / (e : Int)) = ((t / e : Nat) : Int) := rfl
 have hle : t / e ≤ k / e := Nat.div_le_div_right ht
 have h0 : 0 ≤ (t : Int) / (e : Int) := by rw [hdv]; exact Int.natCast_nonneg _
 have h1 : (t : Int) / (e : Int) ≤ ((k / e : Nat) : Int) := by rw [hdv]; exact Int.ofNat_le.2 hle
 have hkey := h.key hk (j := (t : Int) / (e : Int) - 1) ⟨by omega,by omega⟩
 rw [seek_some ⟨hok,by omega,by show (t : Int) ≤ ((rows.take k).length : Nat); omega⟩ hkey]
 have hm : t / e * e ≤ t := Nat.div_mul_le_self t e
 rw [show ((t : Int) / (e : Int) - 1 + 1).toNat = t / e by rw [hdv]; omega]
 congr 1
 show runM (lockW l n seed rows (t / e * e)) (((rows.take k).take ((t : Nat) : Int).toNat).drop ((t : Int) / (e : Int) * (e : Int)).toNat) = _
 rw [Int.toNat_natCast,List.take_take,Nat.min_eq_left ht,hdv,show (((t / e : Nat) : Int) * (e : Int)).toNat = t / e * e by rw [← Int.natCast_mul,Int.toNat_natCast],lockW,← runM_app]
 rw [show rows.take (t / e * e) = (rows.take t).take (t / e * e) by rw [List.take_take,Nat.min_eq_left hm],List.take_append_drop]
 rfl
theorem RD.play (h : RD l n seed e rows) {k t : Nat} (hk : k ≤ rows.length) (ht : t ≤ k) : playM (replK l n seed e rows k) t = some (lockW l n seed rows t) := by
 have hlen : (rows.take k).length = k := by rw [List.length_take]; omega
 rw [play_yes ⟨h.ok hk,by omega,by show (t : Int) ≤ ((rows.take k).length : Nat); omega⟩]
 show some (runM (newWorld l (n : Int).toNat seed) ((rows.take k).take ((t : Nat) : Int).toNat)) = _
 rw [Int.toNat_natCast,Int.toNat_natCast,List.take_take,Nat.min_eq_left ht]
 rfl
theorem RD.tamper (h : RD l n seed e rows) {k : Nat} (hk : k ≤ rows.length) : tamper (replK l n seed e rows k) = -1 := by
 have he := h.he
 refine tam_all (h.ok hk) ?_
 have hkl : (replK l n seed e rows k).Keys.length = k / e := Zg _
 rw [hkl]
 have : ∀ c,c ≤ k / e → tamF (replK l n seed e rows k) c = none := fun c => by
  induction c with
  | zero => intro _; rfl
  | succ c ih =>
   intro hc
   have hce : (c + 1) * e ≤ k := Nat.le_trans (Nat.mul_le_mul_right e hc) (Nat.div_mul_le_self k e)
   have h1 := h.key hk (j := (c : Int)) (by omega)
   have h2 := h.play hk hce
   rw [show ((c : Int) + 1).toNat = c + 1 by omega] at h1
   refine tamF_go (ih (by omega)) ?_
   rw [bad_at h1 (z := lockW l n seed rows ((c + 1) * e)) (by
    show playM _ (((c : Int) + 1) * (e : Int)) = _
    rw [show ((c : Int) + 1) * (e : Int) = (((c + 1) * e : Nat) : Int) by rw [Int.natCast_mul]; rfl]
    exact h2)]
   simp
 exact this _ (Nat.le_refl _)
theorem keysK_succ (c : Nat) : keysK l n seed e rows (c + 1) = keysK l n seed e rows c ++ [deltaT (worldBytes (lockW l n seed rows (c * e))) (worldBytes (lockW l n seed rows ((c + 1) * e)))] := by
 rw [keysK,List.range_succ,List.map_append]
 rfl
theorem div_step {k e : Nat} (he : 1 ≤ e) : (((k : Int) + 1) % (e : Int) = 0 → (k + 1) / e = k / e + 1 ∧ (k / e + 1) * e = k + 1) ∧ (¬ ((k : Int) + 1) % (e : Int) = 0 → (k + 1) / e = k / e) := by
 have h1 : ((k : Int) + 1) % (e : Int) = (((k + 1) % e : Nat) : Int) := by rw [Int.natCast_emod]; rfl
 rw [h1]
 have h2 := Nat.succ_div (a := k) (b := e)
 constructor
 ·intro h
  have h3 : (k + 1) % e = 0 := by omega
  have h4 : e ∣ k + 1 := Nat.dvd_of_mod_eq_zero h3
  rw [if_pos h4] at h2
  refine ⟨h2,?_⟩
  rw [← h2]
  exact Nat.div_mul_cancel h4
 ·intro h
  rw [if_neg fun h4 => h (by rw [Nat.mod_eq_zero_of_dvd h4]; rfl)] at h2
  exact h2
theorem RD.add (h : RD l n seed e rows) {k : Nat} {row : List Int} (hr : rows[k]? = some row) : addRow (replK l n seed e rows k) row = (replK l n seed e rows (k + 1),true) := by
 have he := h.he
 have hk : k < rows.length := Y7 hr
 have hlen : (rows.take k).length = k := by rw [List.length_take]; omega
 have hkl : (replK l n seed e rows k).Keys.length = k / e := Zg _
 have h1 := h.key (k := k) (by omega) (j := ((replK l n seed e rows k).Keys.length : Int) - 1) (by rw [hkl]; omega)
 have h2 := h.seek (k := k) (t := k) (by omega) (Nat.le_refl _)
 have h2' : seekM (replK l n seed e rows k) (replK l n seed e rows k).Rows.length = some (lockW l n seed rows k) := by
  rw [show ((replK l n seed e rows k).Rows.length : Int) = (k : Int) by show ((rows.take k).length : Int) = _; omega]
  exact h2
 rw [show (((replK l n seed e rows k).Keys.length : Int) - 1 + 1).toNat = k / e by rw [hkl]; omega] at h1
 have hstep : stepW (lockW l n seed rows k) row = lockW l n seed rows (k + 1) := by
  rw [lockW,lockW,List.take_add_one,hr,Option.toList_some,runM_app]
  rfl
 have hto : addOne (replK l n seed e rows k) row (lockW l n seed rows (k / e * e)) (lockW l n seed rows k) = replK l n seed e rows (k + 1) := by
  have hd := div_step (k := k) he.1
  unfold addOne
  rw [hstep]
  show TReplay.mk l n seed e (rows.take k ++ [row]) (if (((rows.take k).length : Int) + 1) % (e : Int) = 0 then keysK l n seed e rows (k / e) ++ _ else keysK l n seed e rows (k / e)) = ⟨l,n,seed,e,rows.take (k + 1),keysK l n seed e rows ((k + 1) / e)⟩
  rw [hlen,List.take_add_one,hr,Option.toList_some]
  congr 1
  split
  ·rename_i hm
   obtain ⟨h3,h4⟩ := hd.1 hm
   rw [h3,keysK_succ,h4]
  ·rename_i hm
   rw [hd.2 hm]
 rw [add_yes h1 h2' (by rw [hto]; exact h.ok (by omega)),hto]
theorem RD.adds (h : RD l n seed e rows) : addsM (replK l n seed e rows 0) rows = (replK l n seed e rows rows.length,true) := by
 have : ∀ k,k ≤ rows.length → addsG (replK l n seed e rows 0) rows k = some (replK l n seed e rows k) := fun k => by
  induction k with
  | zero => intro _; rfl
  | succ k ih =>
   intro hk
   have hr : rows[k]? = some rows[k] := List.getElem?_eq_getElem (by omega)
   have ha := h.add hr
   rw [adds_go (ih (by omega)) hr (by rw [ha]),ha]
 exact adds_T (this _ (Nat.le_refl _))
end
theorem RD.rep {l : TLevel} {n : Nat} {seed : Int} {e : Nat} {rows : List (List Int)} (h : RD l n seed e rows) (gr : Enc.gd rows) {k : Nat} (hk : k ≤ rows.length) : RepIn (replK l n seed e rows k) ∧ KeysIn (replK l n seed e rows k) := by
 have hL := h.hL
 have hs := Za.1 h.hs
 have hn := h.hn
 have he := h.he
 have hks : ∀ x ∈ keysK l n seed e rows (k / e),x.size ≤ 1048576 := fun x hx => by
  rw [keysK] at hx
  obtain ⟨j,_,rfl⟩ := List.mem_map.1 hx
  have h5 := Yt (worldBytes (lockW l n seed rows (j * e))) (worldBytes (lockW l n seed rows ((j + 1) * e)))
  have h6 := Yp (lockW l n seed rows ((j + 1) * e))
  omega
 have hkl : (keysK l n seed e rows (k / e)).length ≤ 9223372036854775807 := by rw [Zg]; exact Nat.le_trans (Nat.div_le_self _ _) (by omega)
 have hg : Enc.gd (replK l n seed e rows k) := ⟨h.gl,⟨by show _ ≤ (n : Int); omega,by show (n : Int) ≤ _; omega⟩,⟨by show _ ≤ seed; omega,by show seed ≤ _; omega⟩,⟨by show _ ≤ (e : Int); omega,by show (e : Int) ≤ _; omega⟩,Enc.gd_take gr _,⟨hkl,fun x hx => by have := hks x hx; show x.size ≤ _; omega⟩⟩
 exact ⟨ok_in hg h.ll (h.ok hk),hks⟩
end
section
open Go.RowKit

section
variable {n k j : Nat} {t bs : List TBody} {ss : List Int} {s : List TBody × List Int} {b : TBody} {c : Int}
theorem addM_le (h : ∀ x ∈ ss,x ≤ c) : ∀ x ∈ addM ss k,x ≤ c + 1 := fun x hx => by
 unfold addM at hx
 split at hx
 ·have := h x hx; omega
 ·rename_i s hs
  rcases List.mem_or_eq_of_mem_set hx with h1 | h1
  ·have := h x h1; omega
  ·have := h s (List.mem_of_getElem? hs); omega
theorem le_up (h : ∀ x ∈ ss,x ≤ c) : ∀ x ∈ ss,x ≤ c + 1 := fun x hx => by have := h x hx; omega
theorem shOne_le (h : ∀ x ∈ s.2,x ≤ c) : ∀ x ∈ (shOne n s b).2,x ≤ c + 1 := by
 unfold shOne
 split
 ·split
  ·exact le_up h
  ·split
   ·exact le_up h
   ·simp only
    split
    ·exact addM_le h
    ·exact le_up h
 ·exact le_up h
theorem itOne_le (h : ∀ x ∈ ss,x ≤ c) : ∀ x ∈ itOne n bs ss b,x ≤ c + 1 := by
 unfold itOne
 split
 ·split
  ·exact le_up h
  ·exact addM_le h
 ·exact le_up h
theorem shS_le (h : ∀ x ∈ s.2,x ≤ c) : ∀ j : Nat,∀ x ∈ (shS n t s j).2,x ≤ c + j
 | 0 => fun x hx => by have := h x hx; omega
 | j + 1 => by
  have ih := shS_le h j
  rw [shS]
  split
  ·intro x hx; have := ih x hx; omega
  ·intro x hx; have := shOne_le ih x hx; omega
theorem foldl_le : ∀ (l : List TBody) {ss : List Int} {c : Int},(∀ x ∈ ss,x ≤ c) → ∀ x ∈ l.foldl (itOne n bs) ss,x ≤ c + l.length
 | [],ss,c,h => fun x hx => by have := h x hx; simp; omega
 | b :: l,ss,c,h => fun x hx => by
  have := foldl_le l (itOne_le (n := n) (bs := bs) (b := b) h) x hx
  simp only [List.length_cons]
  omega
theorem hitsR_le (hl : bs.length ≤ 24) (h : ∀ x ∈ ss,x ≤ c) : ∀ x ∈ (hitsR n bs ss).2,x ≤ c + 48 := fun x hx => by
 have h1 := foldl_le (n := n) (bs := (shS n (bs.drop n) (bs,ss) (bs.drop n).length).1) ((bs.drop n).take (bs.drop n).length) (shS_le (n := n) (t := bs.drop n) (s := (bs,ss)) h (bs.drop n).length) x hx
 rw [List.take_length,List.length_drop] at h1
 omega
end
theorem stepW_le {w : TWorld} {row : List Int} {c : Int} (hg : Enc.gd w) (h : ∀ x ∈ w.Scores,x ≤ c) : ∀ x ∈ (stepW w row).Scores,x ≤ c + 48 := by
 unfold stepW
 split
 ·rename_i hh
  have hl := (PH.of hg hh.1 hh.2.2).mv.len.2
  have h1 := hitsR_le (n := w.Scores.length) hl h
  unfold tickM lastM
  split
  ·exact h1
  ·split <;> exact h1
 ·intro x hx; have := h x hx; omega
theorem runM_le : ∀ (rows : List (List Int)) {w : TWorld} {c : Int},Enc.gd w → (∀ x ∈ w.Scores,x ≤ c) → ∀ x ∈ (runM w rows).Scores,x ≤ c + 48 * rows.length
 | [],w,c,hg,h => fun x hx => by have := h x hx; simp; omega
 | r :: rows,w,c,hg,h => fun x hx => by
  have := runM_le rows (K1 (row := r) hg).1 (stepW_le (row := r) hg h) x hx
  simp only [List.length_cons]
  omega
theorem RD.score {l : TLevel} {n : Nat} {seed : Int} {e : Nat} {rows : List (List Int)} (h : RD l n seed e rows) (t : Nat) : ∀ x ∈ (lockW l n seed rows t).Scores,x ≤ 19200 := fun x hx => by
 have hL := h.hL
 have := runM_le (rows.take t) h.new_in.1 (c := 0) (fun x hx => by
  have : x = 0 := List.eq_of_mem_replicate hx
  omega) x hx
 rw [List.length_take] at this
 omega
def plus1 (w : TWorld) : TWorld := ⟨w.Level,w.Tick,w.Seed,w.Scores.set 0 (w.Scores.getD 0 0 + 1),w.Bodies⟩
theorem plus1_ok {w : TWorld} (ho : worldOk w = true) (h : ∀ x ∈ w.Scores,x ≤ 999999) : worldOk (plus1 w) = true := by
 have hs := Kw ho
 have hlen : (w.Scores.set 0 (w.Scores.getD 0 0 + 1)).length = w.Scores.length := List.length_set
 have hn := (K8 ho).2.2.2.1
 have hall : ∀ x ∈ w.Scores.set 0 (w.Scores.getD 0 0 + 1),0 ≤ x ∧ x ≤ 1000000 := fun x hx => by
  rcases List.mem_or_eq_of_mem_set hx with h1 | h1
  ·have := hs x h1; omega
  ·have h0 : w.Scores.getD 0 0 ∈ w.Scores := by
    rw [List.getD_eq_getElem?_getD,List.getElem?_eq_getElem (by omega)]
    exact List.getElem_mem _
   have h2 := hs _ h0
   have h3 := h _ h0
   omega
 obtain ⟨g1,g2,g3,g4,g5,g6,g7⟩ := K8 ho
 have hl : (plus1 w).Scores.length = w.Scores.length := hlen
 refine worldOk_T ⟨g1,g2,g3,by rw [hl]; exact g4,List.all_eq_true.2 fun x hx => Za.2 (hall x hx),by rw [hl]; exact g6,by rw [hl]; exact g7⟩
theorem plus1_ne {w : TWorld} (hn : 1 ≤ w.Scores.length) : plus1 w ≠ w := fun h => by
 have h1 : w.Scores.set 0 (w.Scores.getD 0 0 + 1) = w.Scores := congrArg TWorld.Scores h
 have h2 := congrArg (fun l => l.getD 0 0) h1
 simp only [List.getD_eq_getElem?_getD] at h2
 rw [List.getElem?_set_self (by omega)] at h2
 simp only [Option.getD_some] at h2
 omega
end
section
open Go.RowKit

section
variable {l : TLevel} {n : Nat} {seed : Int} {e : Nat} {rows : List (List Int)} {k : Nat}
noncomputable def tampD (l : TLevel) (n : Nat) (seed : Int) (e : Nat) (rows : List (List Int)) (k : Nat) : ByteArray := deltaT (worldBytes (lockW l n seed rows (k * e))) (worldBytes (plus1 (lockW l n seed rows ((k + 1) * e))))
noncomputable def tampK (l : TLevel) (n : Nat) (seed : Int) (e : Nat) (rows : List (List Int)) (k : Nat) : TReplay := ⟨l,n,seed,e,rows,(keysK l n seed e rows (rows.length / e)).set k (tampD l n seed e rows k)⟩
theorem tamp_len : (tampK l n seed e rows k).Keys.length = rows.length / e := by
 show ((keysK l n seed e rows (rows.length / e)).set k _).length = _
 rw [List.length_set,Zg]
theorem RD.tOk (h : RD l n seed e rows) : replayOk (tampK l n seed e rows k) = true := by
 have h1 := h.ok (Nat.le_refl rows.length)
 have h2 := tamp_len (l := l) (n := n) (seed := seed) (e := e) (rows := rows) (k := k)
 unfold replayOk at h1 ⊢
 have h3 : (replK l n seed e rows rows.length).Rows = rows := List.take_length
 have h4 : (replK l n seed e rows rows.length).Keys.length = rows.length / e := Zg _
 rw [h3,h4] at h1
 rw [h2]
 exact h1
theorem RD.tText (h : RD l n seed e rows) : ∀ j,j ≤ k → k < rows.length / e → keyText (worldBytes (newWorld l n seed)) (tampK l n seed e rows k).Keys j = some (worldBytes (lockW l n seed rows (j * e)))
 | 0,_,_ => by rw [keyText,Nat.zero_mul,lockW_zero]
 | j + 1,hj,hk => by
  have hat : (tampK l n seed e rows k).Keys[j]? = some (deltaT (worldBytes (lockW l n seed rows (j * e))) (worldBytes (lockW l n seed rows ((j + 1) * e)))) := by
   show ((keysK l n seed e rows (rows.length / e)).set k _)[j]? = _
   rw [List.getElem?_set_ne (by omega)]
   exact keysK_at (by omega)
  rw [Zb (RD.tText h j (by omega) hk) hat]
  exact delta_back (Yp _)
theorem RD.mul_le (h : RD l n seed e rows) {j : Nat} (hj : j ≤ rows.length / e) : j * e ≤ rows.length := Nat.le_trans (Nat.mul_le_mul_right e hj) (Nat.div_mul_le_self rows.length e)
theorem RD.tKey (h : RD l n seed e rows) {j : Nat} (hj : j < k) (hk : k < rows.length / e) : keyAt (tampK l n seed e rows k) j = some (lockW l n seed rows ((j + 1) * e)) := by
 have hkl := tamp_len (l := l) (n := n) (seed := seed) (e := e) (rows := rows) (k := k)
 rw [keyAt_all ⟨h.tOk,by omega,by rw [hkl]; omega⟩]
 rw [show ((j : Int) + 1).toNat = j + 1 by omega]
 have hg := h.good ((j + 1) * e)
 have hce := h.mul_le (j := j + 1) (by omega)
 have htk : (rows.take ((j + 1) * e)).length = (j + 1) * e := by rw [List.length_take]; omega
 have hb := world_back hg.1
 rw [hg.2.2.1] at hb
 refine Zf (s := worldBytes (lockW l n seed rows ((j + 1) * e))) ?_ hb ⟨?_,?_⟩
 ·exact h.tText (j + 1) (by omega) hk
 ·rw [hg.2.1,htk]; show (((j + 1) * e : Nat) : Int) = ((j + 1 : Nat) : Int) * (e : Int); rw [Int.natCast_mul]
 ·rw [hg.2.2.2]; rfl
theorem RD.plus (h : RD l n seed e rows) (t : Nat) : worldOk (plus1 (lockW l n seed rows t)) = true := plus1_ok (h.good t).1 fun x hx => by have := h.score t x hx; omega
theorem RD.tAt (h : RD l n seed e rows) (hk : k < rows.length / e) : keyAt (tampK l n seed e rows k) k = some (plus1 (lockW l n seed rows ((k + 1) * e))) := by
 have hkl := tamp_len (l := l) (n := n) (seed := seed) (e := e) (rows := rows) (k := k)
 rw [keyAt_all ⟨h.tOk,by omega,by rw [hkl]; omega⟩]
 rw [show ((k : Int) + 1).toNat = k + 1 by omega]
 have hg := h.good ((k + 1) * e)
 have hce := h.mul_le (j := k + 1) (by omega)
 have htk : (rows.take ((k + 1) * e)).length = (k + 1) * e := by rw [List.length_take]; omega
 have hb := world_back (h.plus ((k + 1) * e))
 have hlv : (plus1 (lockW l n seed rows ((k + 1) * e))).Level = l := hg.2.2.1
 rw [hlv] at hb
 refine Zf (s := worldBytes (plus1 (lockW l n seed rows ((k + 1) * e)))) ?_ hb ⟨?_,?_⟩
 ·have hat : (tampK l n seed e rows k).Keys[k]? = some (tampD l n seed e rows k) := by
   show ((keysK l n seed e rows (rows.length / e)).set k _)[k]? = _
   rw [List.getElem?_set_self (by rw [Zg]; exact hk)]
  show keyText (worldBytes (newWorld l (n : Int).toNat seed)) (tampK l n seed e rows k).Keys (k + 1) = _
  rw [Int.toNat_natCast,Zb (h.tText k (Nat.le_refl _) hk) hat]
  exact delta_back (Yp _)
 ·show (lockW l n seed rows ((k + 1) * e)).Tick = _
  rw [hg.2.1,htk]; show (((k + 1) * e : Nat) : Int) = ((k + 1 : Nat) : Int) * (e : Int); rw [Int.natCast_mul]
 ·show (((lockW l n seed rows ((k + 1) * e)).Scores.set 0 _).length : Int) = _
  rw [List.length_set,hg.2.2.2]; rfl
theorem RD.tPlay (h : RD l n seed e rows) {t : Nat} (ht : t ≤ rows.length) : playM (tampK l n seed e rows k) t = some (lockW l n seed rows t) := by
 rw [play_yes ⟨h.tOk,by omega,by show (t : Int) ≤ (rows.length : Nat); omega⟩]
 show some (runM (newWorld l (n : Int).toNat seed) (rows.take ((t : Nat) : Int).toNat)) = _
 rw [Int.toNat_natCast,Int.toNat_natCast]
 rfl
theorem RD.tBad (h : RD l n seed e rows) {j : Nat} (hj : j < rows.length / e) {w : TWorld} (hw : keyAt (tampK l n seed e rows k) j = some w) : badKey (tampK l n seed e rows k) j = !decide (w = lockW l n seed rows ((j + 1) * e)) := by
 refine bad_at hw ?_
 show playM _ (((j : Int) + 1) * (e : Int)) = _
 rw [show ((j : Int) + 1) * (e : Int) = (((j + 1) * e : Nat) : Int) by rw [Int.natCast_mul]; rfl]
 exact h.tPlay (h.mul_le hj)
theorem RD.tTam (h : RD l n seed e rows) (hk : k < rows.length / e) : Go.Proofs.YtcjclaoogdblbaaGreat.tamper (tampK l n seed e rows k) = k := by
 have hkl := tamp_len (l := l) (n := n) (seed := seed) (e := e) (rows := rows) (k := k)
 have hpre : ∀ c,c ≤ k → tamF (tampK l n seed e rows k) c = none := fun c => by
  induction c with
  | zero => intro _; rfl
  | succ c ih =>
   intro hc
   refine tamF_go (ih (by omega)) ?_
   rw [h.tBad (by omega) (h.tKey (by omega) hk)]
   simp
 have hb : badKey (tampK l n seed e rows k) k = true := by
  rw [h.tBad hk (h.tAt hk)]
  have hg := h.good ((k + 1) * e)
  have hne := plus1_ne (w := lockW l n seed rows ((k + 1) * e)) (by rw [hg.2.2.2]; exact h.hn.1)
  simp [hne]
 refine tam_hit h.tOk (tamF_hit (hpre k (Nat.le_refl _)) hb ?_)
 rw [hkl]
 exact hk
end
end
end Go.Proofs.YtcjclaoogdblbaaGreat
