/-
  Parts of the proof (rules, data, and what functions of the program and of the reference return), among them: The kit's readings of the laws' structs as Lean data; The kit's reading of a list of bytes as Lean data.
  Conditions: those that each theorem names.
-/
import Derived.ChangeKeysEq
import Derived.Test.YtbfhboakafjjgaaDDSpcRowk8
import Derived.Test.YtbfhboakafjjgaaDDSpcRowk9
import Derived.Test.YtbfhboakafjjgaaDDSpcRowk11
import Derived.Test.YtbfhboakafjjgaaDDSpcRowk12
set_option linter.unusedSimpArgs false
set_option linter.unusedVariables false
set_option maxRecDepth 8000
set_option maxHeartbeats 8000000
namespace Go.Proofs.Ytbfhboakafjjgaa
section
open Go.RowKit

class TyInts (P : Program) (t : TypeId) (n : outParam Nat) : Prop where
 u : P.underlying t = some (.struct (P.fieldsOf t))
 held : P.stoodInHeld t = false
 guard : P.eqGuardType P.depth t = false
 fs : ((P.fieldsOf t).toList.map fun f => (f.name == "_", f.offset, (match P.underlying f.type with | some (.int .i64) => true | _ => false), P.cellsOf f.type)) = (List.range n).map fun i => (false, i, true, 1)
theorem eqInts {P : Program} {w : World} (d : Nat) (xs ys : List Int) (hl : xs.length = ys.length) : ∀ (fs : List Field) (o : Nat), (fs.map fun f => (f.name == "_", f.offset, (match P.underlying f.type with | some (.int .i64) => true | _ => false), P.cellsOf f.type)) = ((List.range xs.length).drop o).map (fun i => (false, i, true, 1)) →
  (Op.eqFields (d + 1) (xs.map (Value.int .i64)).toArray (ys.map (Value.int .i64)).toArray fs).run P w = .ok (decide (xs.drop o = ys.drop o)) w
 | [],o,h => by
  have h1 : ((List.range xs.length).drop o) = [] := by simpa using h.symm
  have h2 : xs.length ≤ o := by simpa using h1
  rw [List.drop_eq_nil_of_le h2,List.drop_eq_nil_of_le (by omega)]
  simp [Op.eqFields]
 | f :: fs,o,h => by
  by_cases ho : o < xs.length
  ·rw [List.drop_eq_getElem_cons (by simpa using ho)] at h
   simp only [List.map_cons,List.cons.injEq,List.getElem_range,Prod.mk.injEq] at h
   obtain ⟨⟨h1,h2,h3,h4⟩,h5⟩ := h
   have hu : P.underlying f.type = some (.int .i64) := by
    split at h3
    ·assumption
    ·cases h3
   have ih := eqInts (w := w) d xs ys hl fs (o + 1) h5
   have hn : f.name ≠ "_" := by simpa using h1
   have hk : P.plainKey f.type = true := by simp [Program.plainKey,hu]
   have p1 : (Go.part f.type (xs.map (Value.int .i64)).toArray f.offset).run P w = .ok (.int .i64 xs[o]) w := run_part_plain w hk (by rw [h2]; simp [ho])
   have p2 : (Go.part f.type (ys.map (Value.int .i64)).toArray f.offset).run P w = .ok (.int .i64 (ys[o]'(by omega))) w := run_part_plain w hk (by rw [h2]; simp [show o < ys.length by omega])
   simp only [Op.eqFields,if_pos hn,Sem.run_bind,p1,p2,Result.andThen_ok,run_equalIn_int w d f.type .i64 .i64 _ _ hu]
   have dx : xs.drop o = xs[o] :: xs.drop (o + 1) := List.drop_eq_getElem_cons ho
   have dy : ys.drop o = ys[o]'(by omega) :: ys.drop (o + 1) := List.drop_eq_getElem_cons (by omega)
   have hd : decide (xs.drop o = ys.drop o) = (decide (xs[o] = ys[o]'(by omega)) && decide (xs.drop (o + 1) = ys.drop (o + 1))) := by
    rw [dx,dy,← Bool.decide_and]
    exact decide_eq_decide.2 (by rw [List.cons.injEq])
   rw [hd]
   by_cases e : xs[o] = ys[o]'(by omega)
   ·rw [decide_eq_true e,Bool.true_and]
    simp [e,ih]
   ·rw [decide_eq_false e,Bool.false_and]
    have e2 : (xs[o] == ys[o]'(by omega)) = false := by simp [e]
    simp [e2]
  ·rw [List.drop_eq_nil_of_le (by simp; omega)] at h
   simp at h
theorem ag_ints {w : World} {H : Hs} {F : Nat → Prop} {ps : List Nat} {cs : List V1} {xs : List Int} {v : Value} (hc : cs = xs.map fun n => V1.rd ps (.v (.int .i64 n))) (h : R2 w H F (.ag cs) v) : v = .agg (xs.map (Value.int .i64)).toArray := by
 obtain ⟨us,rfl,hl,hu⟩ := h
 subst hc
 rw [List.length_map] at hl
 congr 2
 apply List.ext_getElem
 ·simp [hl]
 ·intro i h1 h2
  have h3 := hu i (V1.rd ps (.v (.int .i64 (xs[i]'(by omega))))) us[i] (by simp [show i < xs.length by omega]) (by simp [h1])
  have h4 : RO w (inP H F ps) (.v (.int .i64 (xs[i]'(by omega)))) us[i] := h3
  rw [(RO.plain h4).1]
  simp
section
variable {P : Program} {ops : Array Oper} {o : Oper} {st : St} {m n : Nat} {t t' : TypeId} {y z : Operand} {ps qs : List Nat} {cs ds : List V1} {xs ys : List Int} {b : Bool}
theorem q_aneq [hi : TyInts P t n] (ho : o.op = .binOp .neq t y z t') (hg : o.guard = none) (hy : st.ev y = .o (.ag cs)) (hz : st.ev z = .o (.ag ds)) (hc : cs = xs.map fun n => V1.rd ps (.v (.int .i64 n))) (hd : ds = ys.map fun n => V1.rd qs (.v (.int .i64 n))) (h1 : xs.length = n) (h2 : ys.length = n) (hb : decide (xs ≠ ys) = b) : Qt P ops o st (B b) [] m :=
 .pure hg fun a w H F hr => ⟨.bool b,by
  have e1 := ag_ints (w := w) (H := H) (F := F) hc (by have := hr.ev y; rw [hy] at this; exact this)
  have e2 := ag_ints (w := w) (H := H) (F := F) hd (by have := hr.ev z; rw [hz] at this; exact this)
  have hq := eqInts (P := P) (w := w) 9998 xs ys (by omega) (P.fieldsOf t).toList 0 (by rw [hi.fs,h1]; rfl)
  have hf := run_equalIn_struct (P := P) w 9999 t (xs.map (Value.int .i64)).toArray (ys.map (Value.int .i64)).toArray hi.u hi.held
  rw [hq] at hf
  have hb2 : (!decide (xs = ys)) = b := by rw [← hb]; simp
  simp only [execOp,ho,e1,e2,Sem.run_bind,run_eqGuard_agg w .neq t y z _ _ hi.guard,Result.andThen_ok,run_neq_struct,hf,List.drop_zero,hb2]
  rfl,plainV _ rfl⟩
end
instance : TyInts Try.prog 57 9 := ⟨by kernel_rfl,by kernel_rfl,by kernel_rfl,by kernel_rfl⟩
end
section
open Go.RowKit

theorem bi_eq {x y : TBody} (h : x = y) : decide (bodyInts x ≠ bodyInts y) = false := by rw [h]; simp
theorem bi_ne {x y : TBody} (h : ¬ x = y) : decide (bodyInts x ≠ bodyInts y) = true := by
 refine decide_eq_true fun e => h ?_
 cases x
 cases y
 simp only [bodyInts,List.cons.injEq,and_true] at e
 simp only [TBody.mk.injEq]
 exact e
theorem S_SameWorld (x y : TWorld) (hg : Enc.gd x) : Con Try.prog 14 [] [ag x,ag y] [] (B (decide (x = y))) := by
 obtain ⟨g_Level,g_Tick,g_Seed,g_Scores,g_Bodies⟩ := hg
 have hlx := Yl x.Bodies
 have hly := Yl y.Bodies
 have hnb := g_Bodies.1
 have c1 := S_ints x.Scores y.Scores g_Scores
 have c2 := S_sameLevel x.Level y.Level g_Level
 by_cases n1 : x.Tick = y.Tick
 case neg =>
  have f1 : decide (x.Tick ≠ y.Tick) = true := decide_eq_true n1
  rw [decide_eq_false (fun e : x = y => n1 (by rw [e]))]
  refine Con.of Try.func14 J Try.ntmps14 J (fun E => ?_)
  refine zy (M1 (Qq J J J J) J J (M1 (Qq J J J J) J J (z1 J (zz (Qd (zy (z2 J J J (z3 J ?_))))))));refine z2 J J J (z3 J (z9f J (by assumption) (z0 J (z6 J (z6 J (z6 J (z6 J (z6 J (zpT J (z0 J (z6 J ?_)))))))))));refine z6 J (z6 J (z6 J (z6 J (z6 J (zpT J (z0 J (z6 J (z6 J (z6 J (z6 J (z6 J ?_)))))))))));refine z6 J (z6 J (zpT J (z0 J (z6 J (z6 J (z6 J (z6 J (z6 J (z6 J (zpT J (Qe ?_)))))))))));refine Q0 (Qm J (zy (z1 J (zz (Xa (T_r (F_r ?_)))))))
  exact Xp J J (X3 [] (by decide) J J J)
 have f1 : decide (x.Tick ≠ y.Tick) = false := decide_eq_false (fun q => q n1)
 by_cases n2 : x.Seed = y.Seed
 case neg =>
  have f2 : decide (x.Seed ≠ y.Seed) = true := decide_eq_true n2
  rw [decide_eq_false (fun e : x = y => n2 (by rw [e]))]
  refine Con.of Try.func14 J Try.ntmps14 J (fun E => ?_)
  refine zy (M1 (Qq J J J J) J J (M1 (Qq J J J J) J J (z1 J (zz (Qd (zy (z2 J J J (z3 J ?_))))))));refine z2 J J J (z3 J (z9f J (by assumption) (z0 J (z5 J (z2 J J J (z5 J (z3 J (z5 J (z2 J J J (z5 J (z3 J ?_)))))))))));refine z5 J (z9f J (by assumption) (zpF J (z0 J (z6 J (z6 J (z6 J (z6 J (z6 J (z6 J (zpT J (z0 J ?_)))))))))));refine z6 J (z6 J (z6 J (z6 J (z6 J (z6 J (z6 J (zpT J (z0 J (z6 J (z6 J (z6 J ?_)))))))))));refine z6 J (z6 J (z6 J (zpT J (zz (Qm J (zy (z1 J (zz ?_))))))));refine Xa (T_r (F_r ?_))
  exact Xp J J (X3 [] (by decide) J J J)
 have f2 : decide (x.Seed ≠ y.Seed) = false := decide_eq_false (fun q => q n2)
 by_cases n3 : x.Scores = y.Scores
 case neg =>
  rw [decide_eq_false n3] at c1
  rw [decide_eq_false (fun e : x = y => n3 (by rw [e]))]
  refine Con.of Try.func14 J Try.ntmps14 J (fun E => ?_)
  refine zy (M1 (Qq J J J J) J J (M1 (Qq J J J J) J J (z1 J (zz (Qd (zy (z2 J J J (z3 J ?_))))))));refine z2 J J J (z3 J (z9f J (by assumption) (z0 J (z5 J (z2 J J J (z5 J (z3 J (z5 J (z2 J J J (z5 J (z3 J ?_)))))))))));refine z5 J (z9f J (by assumption) (zpF J (z0 J (z5 J (z2 J J J (z5 J (z3 J (z5 J (z2 J J J (z5 J (z3 J ?_)))))))))));refine z5 J ?_;refine zx (Qj J J (c1) J) J ?_;refine z5 J (zn J (zpF J (z0 J (z6 J (z6 J (z6 J (z6 J (z6 J (z6 J (z6 J (zpT J ?_)))))))))));refine z0 J (z6 J (z6 J (z6 J (z6 J (z6 J (z6 J (zpT J (zz (Qm J (Qd ?_))))))))));refine Qc (z1 J (zz (Xa (T_r (F_r ?_)))))
  exact Xp J J (X3 [] (by decide) J J J)
 rw [decide_eq_true n3] at c1
 by_cases n4 : x.Bodies.length = y.Bodies.length
 case neg =>
  have f4 : decide (((els x.Bodies).length : Int) ≠ ((els y.Bodies).length : Int)) = true := decide_eq_true (by omega)
  rw [decide_eq_false (fun e : x = y => n4 (by rw [e]))]
  refine Con.of Try.func14 J Try.ntmps14 J (fun E => ?_)
  refine zy (M1 (Qq J J J J) J J (M1 (Qq J J J J) J J (z1 J (zz (Qd (zy (z2 J J J (z3 J ?_))))))));refine z2 J J J (z3 J (z9f J (by assumption) (z0 J (z5 J (z2 J J J (z5 J (z3 J (z5 J (z2 J J J (z5 J (z3 J ?_)))))))))));refine z5 J (z9f J (by assumption) (zpF J (z0 J (z5 J (z2 J J J (z5 J (z3 J (z5 J (z2 J J J (z5 J (z3 J ?_)))))))))));refine z5 J ?_;refine zx (Qj J J (c1) J) J ?_;refine z5 J (zn J (zpF J (z0 J (z5 J (z2 J J J (z5 J (z3 J (z5 J (zx (Zq J J J) J (z5 J (z2 J J J ?_)))))))))));refine z5 J (z3 J (z5 J (zx (Zq J J J) J (z5 J (z9f J (by assumption) (zpF J (z0 J (z6 J (z6 J (z6 J (z6 J ?_)))))))))));refine z6 J (z6 J (zpT J (zz (Qm J (zy (z1 J (zz (Xa ?_))))))));refine T_r (F_r ?_)
  exact Xp J J (X3 [] (by decide) J J J)
 have f4 : decide (((els x.Bodies).length : Int) ≠ ((els y.Bodies).length : Int)) = false := decide_eq_false (by omega)
 by_cases n5 : x.Level = y.Level
 case neg =>
  rw [decide_eq_false n5] at c2
  rw [decide_eq_false (fun e : x = y => n5 (by rw [e]))]
  refine Con.of Try.func14 J Try.ntmps14 J (fun E => ?_)
  refine zy (M1 (Qq J J J J) J J (M1 (Qq J J J J) J J (z1 J (zz (Qd (zy (z2 J J J (z3 J ?_))))))));refine z2 J J J (z3 J (z9f J (by assumption) (z0 J (z5 J (z2 J J J (z5 J (z3 J (z5 J (z2 J J J (z5 J (z3 J ?_)))))))))));refine z5 J (z9f J (by assumption) (zpF J (z0 J (z5 J (z2 J J J (z5 J (z3 J (z5 J (z2 J J J (z5 J (z3 J ?_)))))))))));refine z5 J ?_;refine zx (Qj J J (c1) J) J ?_;refine z5 J (zn J (zpF J (z0 J (z5 J (z2 J J J (z5 J (z3 J (z5 J (zx (Zq J J J) J (z5 J (z2 J J J ?_)))))))))));refine z5 J (z3 J (z5 J (zx (Zq J J J) J (z5 J (z9f J (by assumption) (zpF J (z0 J (z5 J (z2 J J J (z5 J (z4 J J J ?_)))))))))));refine z5 J (z2 J J J (z5 J (z4 J J J (z5 J ?_))));refine zx (Qj J J (c2) J) J ?_;refine z5 J (zn J (zpF J (zz (Qm J (zy (z1 J (zz (Xa ?_))))))));refine T_r (F_r ?_)
  exact Xp J J (X3 [] (by decide) J J J)
 rw [decide_eq_true n5] at c2
 have hxy : decide (x = y) = decide (x.Bodies = y.Bodies) := decide_eq_decide.2 ⟨fun e => by rw [e],fun e => by cases x; cases y; simp_all⟩
 rw [hxy]
 clear hxy
 refine Con.of Try.func14 J Try.ntmps14 J (fun E => ?_)
 refine zy (M1 (Qq J J J J) J J (M1 (Qq J J J J) J J (z1 J (zz (Qd (zy (z2 J J J (z3 J ?_))))))));refine z2 J J J (z3 J (z9f J (by assumption) (z0 J (z5 J (z2 J J J (z5 J (z3 J (z5 J (z2 J J J (z5 J (z3 J ?_)))))))))));refine z5 J (z9f J (by assumption) (zpF J (z0 J (z5 J (z2 J J J (z5 J (z3 J (z5 J (z2 J J J (z5 J (z3 J ?_)))))))))));refine z5 J ?_;refine zx (Qj J J (c1) J) J ?_;refine z5 J (zn J (zpF J (z0 J (z5 J (z2 J J J (z5 J (z3 J (z5 J (zx (Zq J J J) J (z5 J (z2 J J J ?_)))))))))));refine z5 J (z3 J (z5 J (zx (Zq J J J) J (z5 J (z9f J (by assumption) (zpF J (z0 J (z5 J (z2 J J J (z5 J (z4 J J J ?_)))))))))));refine z5 J (z2 J J J (z5 J (z4 J J J (z5 J ?_))));refine zx (Qj J J (c2) J) J ?_;refine z5 J (zn J (zpF J (zz (Ql J (Qh (Q0 (Qd (zy (z1 J ?_)))))))));refine zz (Qk ?_);refine A_lq (fun m st => ∃ k : Nat,k + m = x.Bodies.length ∧ (x.Bodies.take k = y.Bodies.take k) ∧ st = (⟨_,[(2,.o (.c (.ptr 0 0))),(3,.o (.c (.ptr 1 0))),(5,I k)],[.box ((Enc.e x).map (V1.rd [])),.box ((Enc.e y).map (V1.rd []))]⟩ : St)) (x.Bodies.length) ⟨_,⟨0,by omega,by simp,J⟩,W_gj [0,1] J⟩ ?_
 rintro m_A _ ⟨k,hk_A,hp_A,rfl⟩
 by_cases h3 : k < x.Bodies.length
 ·have hb0 : decide ((k : Int) < (els x.Bodies).length) = true := decide_eq_true (by omega)
  have h4 : k < y.Bodies.length := by omega
  have hat := Yk h3
  have hat2 := Yk h4
  by_cases he : x.Bodies[k] = y.Bodies[k]
  ·have hb6 := bi_eq he
   refine Qd (zy (z0 J (z2 J J J (z3 J (zx (Zq J J J) J (z9a J (by assumption) (zz (Qm J (Qh ?_)))))))));refine Q0 (Qd (Qk (Qd (Xi u8_45 u8_48 u8_49 J (DR.s (Qf J J J J (by decide)) J J (DR.s (Qg J J J J J) J J (DR.s (Qa J J J) J J (DR.s (Q2 J J J J (by omega) (by assumption) J) J J (DR.s (q_lrN J J J J J) J J (DR.s (Qf J J J J (by decide)) J J (DR.s (Qg J J J J J) J J ?_)))))))))));refine DR.s (Qa J J J) J J (DR.s (Q2 J J J J (by omega) (by assumption) J) J J (DR.s (q_lrN J J J J J) J J ?_));refine DR.s (q_aneq (ps := []) (qs := []) (xs := bodyInts x.Bodies[k]) (ys := bodyInts y.Bodies[k]) J J J J J J J J hb6) J J ?_;refine DR.stop (by kernel_rfl) (by kernel_rfl) (zz (Ql J (Qh (Q1 (Q0 (Qc (z0 J (z7 J (by omega) (z1 J (Qe ?_))))))))));refine Q0 ?_
   exact ⟨x.Bodies.length - (k + 1),by omega,_,⟨k + 1,by omega,eq_next h3 h4 hp_A he,J⟩,W_gj [0,1] J⟩
  ·have hb6 := bi_ne he
   refine Qd (zy (z0 J (z2 J J J (z3 J (zx (Zq J J J) J (z9a J (by assumption) (zz (Qm J (Qh ?_)))))))));refine Q0 (Qd (Qk (Qd (Xi u8_45 u8_48 u8_49 J (DR.s (Qf J J J J (by decide)) J J (DR.s (Qg J J J J J) J J (DR.s (Qa J J J) J J (DR.s (Q2 J J J J (by omega) (by assumption) J) J J (DR.s (q_lrN J J J J J) J J (DR.s (Qf J J J J (by decide)) J J (DR.s (Qg J J J J J) J J ?_)))))))))));refine DR.s (Qa J J J) J J (DR.s (Q2 J J J J (by omega) (by assumption) J) J J (DR.s (q_lrN J J J J J) J J ?_));refine DR.s (q_aneq (ps := []) (qs := []) (xs := bodyInts x.Bodies[k]) (ys := bodyInts y.Bodies[k]) J J J J J J J J hb6) J J ?_;refine DR.stop (by kernel_rfl) (by kernel_rfl) (zz (Qm J (zy (z1 J (zz (Xa (B_r (T_r ?_))))))));refine T_r (B_r (T_r (F_r ?_)))
   exact Xp J J (X3 [] (by decide) J J (Xk (eq_ne h3 h4 he).symm))
 ·have hb0 : decide ((k : Int) < (els x.Bodies).length) = false := decide_eq_false (by omega)
  refine Qd (zy (z0 J (z2 J J J (z3 J (zx (Zq J J J) J (z9a J (by assumption) (zz (Ql J (Q9 ?_)))))))));refine T_x (T_x (Xl (Q0 (zy (z1 J (zz (Xa (F_r ?_))))))))
  exact Xp J J (X3 [] (by decide) J J (Xk (eq_all (by omega) n4 hp_A).symm))
end
section
open Go.RowKit

section
variable {l : TLevel} {n : Nat} {seed : Int} {e : Nat} {rows : List (List Int)}
theorem RD.feed (h : RD l n seed e rows) {t f u : Nat} (hf : f ≤ t) (ht : t ≤ rows.length) : feedM ⟨lockW l n seed rows t,0⟩ f ((rows.take u).drop f) = (⟨lockW l n seed rows (max t u),0⟩,true) := by
 have hL := h.hL
 have hg := h.good t
 have htk : (rows.take t).length = t := by rw [List.length_take]; omega
 rw [htk] at hg
 rw [feed_run ⟨hg.1,by omega,?_⟩ (by rw [hg.2.1]; omega)]
 ·rw [hg.2.1,show ((t : Int) - (f : Int)).toNat = t - f by omega,List.drop_drop,show f + (t - f) = t by omega]
  rcases Nat.le_total t u with h1 | h1
  ·rw [lock_run h1,Nat.max_eq_right h1]
  ·rw [lock_back h1,Nat.max_eq_left h1]
 ·rw [hg.2.2.2]
  exact List.all_eq_true.2 fun r hr => h.hr r (List.mem_of_mem_take (List.mem_of_mem_drop hr))
theorem RD.gap (h : RD l n seed e rows) {t f u : Nat} (ht : t ≤ rows.length) : feedM ⟨lockW l n seed rows t,0⟩ ((t : Int) + 1) ((rows.take u).drop f) = (⟨lockW l n seed rows t,1⟩,false) := by
 have hL := h.hL
 have hg := h.good t
 have htk : (rows.take t).length = t := by rw [List.length_take]; omega
 rw [htk] at hg
 rw [feed_gap ⟨hg.1,by omega,?_⟩ (by rw [hg.2.1]; omega) (by omega)]
 ·rfl
 ·rw [hg.2.2.2]
  exact List.all_eq_true.2 fun r hr => h.hr r (List.mem_of_mem_take (List.mem_of_mem_drop hr))
end
section
variable {l : TLevel} {n : Nat} {seed : Int} {e : Nat} {rows : List (List Int)}
theorem rowsOf (h : RD l n seed e rows) (hlen : ∀ r ∈ rows,r.length = n) {f u : Nat} (hfu : f < u) (hu : u ≤ rows.length) (h20 : u ≤ f + 20) :
  dsI (encodeStream f ((rows.take u).drop f)) = some ((f : Int),(rows.take u).drop f) := by
 have hL := h.hL
 have hl : ((rows.take u).drop f).length = u - f := by rw [List.length_drop,List.length_take]; omega
 exact ds_back (by omega) (by rw [hl]; omega) h.hn (fun r hr => h.hr r (List.mem_of_mem_take (List.mem_of_mem_drop hr))) (fun r hr => hlen r (List.mem_of_mem_take (List.mem_of_mem_drop hr)))
theorem encStream_size (f : Int) (rs : List (List Int)) (h : (rs.headD []).length ≤ 4) : (encodeStream f rs).size ≤ 1099511627776 := by
 unfold encodeStream
 split
 ·have h1 := colsB_size rs (rs.headD []).length
  have h2 := packInts_size [f,(rs.length : Int),((rs.headD []).length : Int)]
  rw [sealText_size,Ye]
  simp only [List.length_cons,List.length_nil] at h2
  omega
 ·simp [Yb]
theorem gd_part {xs : List (List Int)} (h : Enc.gd xs) (f u : Nat) : Enc.gd ((xs.take u).drop f) := ⟨by have := h.1; rw [List.length_drop,List.length_take]; omega,fun x hx => h.2 x (List.mem_of_mem_take (List.mem_of_mem_drop hx))⟩
theorem els_part (xs : List (List Int)) (f u : Nat) : els ((xs.take u).drop f) = ((els xs).take u).drop f := by rw [els,List.map_drop,List.map_take]
end
theorem L_sameInts (xs ys : List Int) (hn : Enc.gd xs) : Con Try.prog 35 [] [al xs,al ys] [] (B (decide (xs = ys))) := by
 have hn1 := hn.1
 have hlx := Yl xs
 have hly := Yl ys
 by_cases hl : xs.length = ys.length
 ·have hb : decide (((els xs).length : Int) ≠ ((els ys).length : Int)) = false := by rw [hlx,hly,hl]; simp
  refine Con.of Try.func35 J Try.ntmps35 J (fun E => ?_)
  refine zy (z1 J (zz (Qd (zy (z0 J (zx (Zq J J J) J (z0 J (zx (Zq J J J) J ?_))))))));refine z9f J (by assumption) (zz (Ql J (Qh (Q0 (Qd (zy (z1 J (zz ?_))))))));refine Qk ?_;refine A_lq (fun m st => ∃ k : Nat,k + m = xs.length ∧ (xs.take k = ys.take k) ∧ st = (⟨_,[(0,L xs),(1,L ys),(5,I k)],[]⟩ : St)) (xs.length) ⟨_,⟨0,by omega,by simp,J⟩,W_gj [] J⟩ ?_
  rintro m_A _ ⟨k,hk_A,hp_A,rfl⟩
  refine Qd (zy (z0 J (z0 J (zx (Zq J J J) J (zx (Zv J J J J) J (zz ?_))))))
  refine Xb J (fun h => ?_) (fun h => ?_)
  ·have h3 : k < xs.length := by have := of_decide_eq_true h; omega
   have h4 : k < ys.length := by omega
   have hat := Yk h3
   have hat2 := Yk h4
   by_cases he : xs[k] = ys[k]
   ·have hk : decide (xs[k] ≠ ys[k]) = false := by simp [he]
    refine Qh (Q0 (Qd (Qk (Qd (Xi u8_42 u8_43 u8_44 J (DR.s (Qa J J J) J J (DR.s (Qa J J J) J J (DR.s (Q2 J J J J (by omega) (by assumption) J) J J (DR.s (Zu J J J J) J J (DR.s (Qa J J J) J J (DR.s (Qa J J J) J J ?_)))))))))));refine DR.s (Q2 J J J J (by omega) (by assumption) J) J J (DR.s (Zu J J J J) J J (DR.s (Qw J J J J (by assumption)) J J (DR.stop (by kernel_rfl) (by kernel_rfl) (zz (Ql J (Qh (Q1 (Q0 (Qc (z0 J ?_))))))))));refine z7 J (by omega) (z1 J (zz ?_))
    exact ⟨xs.length - (k + 1),by omega,_,⟨k + 1,by omega,eq_next h3 h4 hp_A he,J⟩,W_gj [] J⟩
   ·have hk : decide (xs[k] ≠ ys[k]) = true := by simp [he]
    refine Qh (Q0 (Qd (Qk (Qd (Xi u8_42 u8_43 u8_44 J (DR.s (Qa J J J) J J (DR.s (Qa J J J) J J (DR.s (Q2 J J J J (by omega) (by assumption) J) J J (DR.s (Zu J J J J) J J (DR.s (Qa J J J) J J (DR.s (Qa J J J) J J ?_)))))))))));refine DR.s (Q2 J J J J (by omega) (by assumption) J) J J (DR.s (Zu J J J J) J J (DR.s (Qw J J J J (by assumption)) J J (DR.stop (by kernel_rfl) (by kernel_rfl) (zz (Qm J (zy (z1 J (zz ?_))))))));refine Xa (B_r (T_r (T_r (B_r (T_r (F_r ?_))))))
    exact Xp J J (X3 [] (by decide) J J (Xk (eq_ne h3 h4 he).symm))
  ·have h3 : ¬ ((k : Int) < (els xs).length) := of_decide_eq_false h
   refine Q9 (T_x (T_x (Xl (Q0 (zy (z1 J (zz (Xa (F_r ?_)))))))))
   exact Xp J J (X3 [] (by decide) J J (Xk (eq_all (by omega) hl hp_A).symm))
 ·have hb : decide (((els xs).length : Int) ≠ ((els ys).length : Int)) = true := by rw [hlx,hly]; simp; omega
  refine Con.of Try.func35 J Try.ntmps35 J (fun E => ?_)
  refine zy (z1 J (zz (Qd (zy (z0 J (zx (Zq J J J) J (z0 J (zx (Zq J J J) J ?_))))))));refine z9f J (by assumption) (zz (Qm J (zy (z1 J (zz (Xa (T_r (F_r ?_))))))))
  exact Xp J J (X3 [] (by decide) J J (Xk (eq_len hl).symm))
theorem L_sameRows (xs ys : List (List Int)) (hn : Enc.gd xs) : Con Try.prog 13 [] [al xs,al ys] [] (B (decide (xs = ys))) := by
 have hn1 := hn.1
 have hlx := Yl xs
 have hly := Yl ys
 by_cases hl : xs.length = ys.length
 ·have hb : decide (((els xs).length : Int) ≠ ((els ys).length : Int)) = false := by rw [hlx,hly,hl]; simp
  refine Con.of Try.func13 J Try.ntmps13 J (fun E => ?_)
  refine zy (z1 J (zz (Qd (zy (z0 J (zx (Zq J J J) J (z0 J (zx (Zq J J J) J ?_))))))));refine z9f J (by assumption) (zz (Ql J (Qh (Q0 (Qd (zy (z1 J (zz ?_))))))));refine Qk ?_;refine A_lq (fun m st => ∃ k : Nat,k + m = xs.length ∧ (xs.take k = ys.take k) ∧ st = (⟨_,[(0,L xs),(1,L ys),(5,I k)],[]⟩ : St)) (xs.length) ⟨_,⟨0,by omega,by simp,J⟩,W_gj [] J⟩ ?_
  rintro m_A _ ⟨k,hk_A,hp_A,rfl⟩
  refine Qd (zy (z0 J (z0 J (zx (Zq J J J) J (zx (Zv J J J J) J (zz ?_))))))
  refine Xb J (fun h => ?_) (fun h => ?_)
  ·have h3 : k < xs.length := by have := of_decide_eq_true h; omega
   have h4 : k < ys.length := by omega
   have hat := Yk h3
   have hat2 := Yk h4
   by_cases he : xs[k] = ys[k]
   ·have hc := L_sameInts xs[k] ys[k] (hn.2 _ (List.getElem_mem h3))
    rw [decide_eq_true he] at hc
    refine Qh (Q0 (Qd (Qk (Qd (Xi u8_50 u8_51 u8_52 J (DR.s (Qa J J J) J J (DR.s (Qa J J J) J J (DR.s (Q2 J J J J (by omega) (by assumption) J) J J (DR.s (Zu J J J J) J J (DR.s (Qa J J J) J J (DR.s (Qa J J J) J J ?_)))))))))));refine DR.s (Q2 J J J J (by omega) (by assumption) J) J J (DR.s (Zu J J J J) J J ?_);refine DR.s (Qj J J (hc) J) J J ?_;refine DR.s (Q4 J J J) J J (DR.stop (by kernel_rfl) (by kernel_rfl) (zz (Ql J (Qh (Q1 (Q0 (Qc (z0 J (z7 J (by omega) (z1 J ?_))))))))));refine zz ?_
    exact ⟨xs.length - (k + 1),by omega,_,⟨k + 1,by omega,eq_next h3 h4 hp_A he,J⟩,W_gj [] J⟩
   ·have hc := L_sameInts xs[k] ys[k] (hn.2 _ (List.getElem_mem h3))
    rw [decide_eq_false he] at hc
    refine Qh (Q0 (Qd (Qk (Qd (Xi u8_50 u8_51 u8_52 J (DR.s (Qa J J J) J J (DR.s (Qa J J J) J J (DR.s (Q2 J J J J (by omega) (by assumption) J) J J (DR.s (Zu J J J J) J J (DR.s (Qa J J J) J J (DR.s (Qa J J J) J J ?_)))))))))));refine DR.s (Q2 J J J J (by omega) (by assumption) J) J J (DR.s (Zu J J J J) J J ?_);refine DR.s (Qj J J (hc) J) J J ?_;refine DR.s (Q4 J J J) J J (DR.stop (by kernel_rfl) (by kernel_rfl) (zz (Qm J (zy (z1 J (zz (Xa (B_r ?_))))))));refine T_r (T_r (B_r (T_r (F_r ?_))))
    exact Xp J J (X3 [] (by decide) J J (Xk (eq_ne h3 h4 he).symm))
  ·have h3 : ¬ ((k : Int) < (els xs).length) := of_decide_eq_false h
   refine Q9 (T_x (T_x (Xl (Q0 (zy (z1 J (zz (Xa (F_r ?_)))))))))
   exact Xp J J (X3 [] (by decide) J J (Xk (eq_all (by omega) hl hp_A).symm))
 ·have hb : decide (((els xs).length : Int) ≠ ((els ys).length : Int)) = true := by rw [hlx,hly]; simp; omega
  refine Con.of Try.func13 J Try.ntmps13 J (fun E => ?_)
  refine zy (z1 J (zz (Qd (zy (z0 J (zx (Zq J J J) J (z0 J (zx (Zq J J J) J ?_))))))));refine z9f J (by assumption) (zz (Qm J (zy (z1 J (zz (Xa (T_r (F_r ?_))))))))
  exact Xp J J (X3 [] (by decide) J J (Xk (eq_len hl).symm))
end
section
open Go.RowKit

def zeroB (b : UInt8) : Bool := b == 0
def someB (b : UInt8) : Bool := !(b == 0)
def packZ (l : List UInt8) : List UInt8 := match l with
 | [] => []
 | x :: r => encVar (((x :: r).takeWhile zeroB).length : Nat) ++ (encVar ((((x :: r).dropWhile zeroB).takeWhile someB).length : Nat) ++ ((x :: r).dropWhile zeroB).takeWhile someB) ++ packZ (((x :: r).dropWhile zeroB).dropWhile someB)
termination_by l.length
decreasing_by
 by_cases h : zeroB x = true
 ·rw [List.dropWhile_cons,if_pos h]
  have h1 := (List.dropWhile_sublist someB (l := r.dropWhile zeroB)).length_le
  have h2 := (List.dropWhile_sublist zeroB (l := r)).length_le
  simp only [List.length_cons]; omega
 ·rw [List.dropWhile_cons,if_neg h,List.dropWhile_cons,if_pos (by simpa [zeroB,someB] using h)]
  have h1 := (List.dropWhile_sublist someB (l := r)).length_le
  simp only [List.length_cons]; omega
def uzGo (s : ByteArray) (strict : Bool) : Nat → Nat → List UInt8 → Option (List UInt8)
 | 0,pos,out => if pos < s.size then none else some out
 | f + 1,pos,out => if pos < s.size then (match decVar s pos with
  | none => none
  | some (n,j) => match unpackText s ((pos : Int) + (j : Int)) with
   | none => none
   | some (t,k) => if (20000 : Int) - out.length < n + t.size then none else if strict = true ∧ n = 0 ∧ t.size = 0 then none else uzGo s strict f (pos + j + k) (out ++ List.replicate n.toNat 0 ++ t.data.toList)) else some out
def unpackZ (strict : Bool) (s : ByteArray) : Option ByteArray := match uzGo s strict s.size 0 [] with
 | none => none
 | some out => if bs (packZ out) = s then some (bs out) else none
end
section
open Go.RowKit

section
variable {P : Program} {E : Env} {ops : Array Oper} {rest : List Oper} {o : Oper} {QQ : Exit → St → Prop} {st : St} {t : TypeId} {y z : Operand} {qs : List Nat}
end
end
section
open Go.RowKit
end
section
open Go.RowKit

def xorB (a : ByteArray) (i : Nat) (x : UInt8) : UInt8 := if i < a.size then UInt8.ofNat (x.toNat ^^^ (byteAt a i).toNat) else x
def xorL (a b : ByteArray) : List UInt8 := (List.range b.size).map fun i => xorB a i (b.data.toList.getD i 0)
def xorText (a b : ByteArray) : ByteArray := bs (xorL a b)
end
section
open Go.RowKit

section
variable {s : ByteArray} {b : Bool} {pos f j k : Nat} {acc : List UInt8} {n : Int} {t : ByteArray} (hp : pos < s.size)
include hp
end
def applyD (base delta : ByteArray) : Option ByteArray := match decVar delta 0 with
 | none => none
 | some (n,j) => match unpackZ true (delta.extract j delta.size) with
  | none => none
  | some x => if (x.size : Int) = n then some (xorText base x) else none
end
section
open Go.RowKit

def keyText (s : ByteArray) (keys : List ByteArray) : Nat → Option ByteArray
 | 0 => some s
 | n + 1 => match keyText s keys n with
  | none => none
  | some t => match keys[n]? with
   | none => none
   | some d => applyD t d
structure ROk (r : TReplay) : Prop where
 l : levelOk r.Level = true
 p : 1 ≤ r.Players ∧ r.Players ≤ 4
 s : inR r.Seed 0 65535 = true
 e : 1 ≤ r.Every ∧ r.Every ≤ 100
 k : r.Keys.length ≤ 400
theorem bytes_len (w : TWorld) : (worldBytes w).size ≤ 20000 := by
 unfold worldBytes
 split
 ·rename_i h
  have hw := Ke h
  have h1 := packInts_size (worldInts w)
  have h2 := flat_length w.Bodies
  have h3 : (worldInts w).length = 3 + w.Scores.length + 9 * w.Bodies.length := by
   simp only [worldInts,List.length_append,List.length_cons,List.length_nil]; omega
  have h4 := hw.2.2.2.1
  have h5 := hw.2.2.2.2.2.1
  omega
 ·decide
section
variable {r : TReplay} {n : Nat} {s : ByteArray} {w : TWorld}
variable (h : keyText (worldBytes (newWorld r.Level r.Players.toNat r.Seed)) r.Keys n = some s)
include h
end
end
section
open Go.RowKit

theorem i64_0 : I64 (0 : Int) := ⟨by omega,by omega⟩
theorem law_Spectators (code : List UInt8) (hg : Enc.gd code) : Con Try.prog 3 [] [al code] [] (B true) := by
 have cb := L_big code
 by_cases hb : code.length > 1048576
 ·rw [decide_eq_true hb] at cb
  refine Con.of Try.func3 J Try.ntmps3 J (fun E => ?_)
  refine zy (z1 J (zz (Qd (zy (z0 J ?_)))));refine zx (Qj J J (cb) J) J ?_;refine zz (Qm J (zy (z1 J (zz (Xa (T_r (F_r ?_)))))))
  exact Xp J J (X3 [] (by decide) J J J)
 rw [decide_eq_false hb] at cb
 have hb : code.length ≤ 1048576 := by omega
 have cd := S_DrawPlay code hb
 have R := play_rd code (e := 1) (by omega)
 have hro := plRows_ok code
 generalize (lvD code).1 = l at cd R
 generalize (sdD code).1 = seed at cd R
 generalize plRows code = rows at cd R hro
 generalize plN code = n at cd R hro
 have gr : Enc.gd rows := gd_rows (n := n) (by omega) (by have := R.hn; omega) hro.2
 have hlen : ∀ r ∈ rows,r.length = n := fun r hr => (hro.2 r hr).1
 have hL := hro.1
 have hlr := Yl rows
 have hg0 := R.good
 have hi0 := R.in_
 rw [← lockW_zero (rows := rows)] at cd
 obtain ⟨lw,hlw⟩ : ∃ lw : Nat → TWorld,lw = lockW l n seed rows := ⟨_,rfl⟩
 have hrun : ∀ t,runM (lw 0) (rows.take t) = lw t := fun t => by rw [hlw]; exact lock_from t
 have hfeed : ∀ {t f u : Nat},f ≤ t → t ≤ rows.length → feedM ⟨lw t,0⟩ f ((rows.take u).drop f) = (⟨lw (max t u),0⟩,true) := fun h1 h2 => by rw [hlw]; exact R.feed h1 h2
 have hgap : ∀ {t f u : Nat},t ≤ rows.length → feedM ⟨lw t,0⟩ ((t : Int) + 1) ((rows.take u).drop f) = (⟨lw t,1⟩,false) := fun h1 => by rw [hlw]; exact R.gap h1
 rw [← hlw] at cd hg0 hi0
 have htick : ∀ t,t ≤ rows.length → (lw t).Tick = (t : Int) := fun t ht => by rw [(hg0 t).2.1,List.length_take]; omega
 have hk0 := atM_rng code 0
 obtain ⟨k,hk⟩ : ∃ k : Nat,(k : Int) = atM code 0 % (((els rows).length : Int) + 1) := ⟨(atM code 0 % (((els rows).length : Int) + 1)).toNat,Int.toNat_of_nonneg (Int.emod_nonneg _ (by omega))⟩
 have hkl : k ≤ rows.length := by have := Int.emod_lt_of_pos (atM code 0) (b := ((els rows).length : Int) + 1) (by omega); omega
 have ca0 := L_at code 0 (by omega) hb
 have crun : ∀ t : Nat,Con Try.prog 9 [] [ag (lw 0),.c (.rd [] (.sl (Enc.k (List Int)) ((els rows).take (t : Int).toNat)))] [.row 1 (els (lw t).Level.Rows),.row 1 (els (lw t).Scores),.row 9 (els (lw t).Bodies)] (.o (.ag [.ref 0,jn (lw t).Tick,jn (lw t).Seed,.ref 1,.ref 2])) := fun t => by
  have h := S_RunWorld (lw 0) (rows.take t) (hi0 0) (Enc.gd_take gr _)
  rw [hrun t] at h
  rw [Int.toNat_natCast,← Yo]
  exact h
 have c1 := crun k
 have c2 := I_WorldBytes (lw k) (hi0 k).gd
 have hwb := world_back (hg0 k).1
 rw [(hg0 k).2.2.1] at hwb
 have hsz := bytes_len (lw k)
 have c3 := I_NewSpectator l (worldBytes (lw k)) R.gl R.ll (by omega)
 rw [hwb] at c3
 have hlv0 : (lw 0).Level = l := (hg0 0).2.2.1
 rw [← hlv0] at c3
 refine Con.of Try.func3 J Try.ntmps3 J (fun E => ?_)
 refine zy (z1 J (zz (Qd (zy (z0 J ?_)))));refine zx (Qj J J (cb) J) J ?_;refine zz (Ql J (Qh (Q0 (zy (z0 J ?_)))));refine Xz (lo := []) (gs := []) (lo' := []) (new := [_,_,_]) [] [] (cd) J J J J J J J J J J J J J J J J J ?_;refine zx (Q8 J J J) J (ze J (ze J (M1 (Qx J J J) J J ?_)));refine Qy J J J J J J J J J (z1 J (zz (zy (z0 J ?_))));refine zx (Qj J J (ca0) J) J ?_;refine z0 J (zx (Zq J J J) J (z7 J (by omega) (zx (Zz J J J J (by omega)) J (z1 J (zz (Qd ?_))))))
 refine AWP.pre (st' := (⟨_,[(0,L code),(3,.o (.c (.ptr 3 0))),(4,L rows),(5,I k)],[.row 1 (els (lw 0).Level.Rows),.row 1 (els (lw 0).Scores),.row 9 (els (lw 0).Bodies),.box [.ref 0,jn (lw 0).Tick,jn (lw 0).Seed,.ref 1,.ref 2]]⟩ : St)) ?_ (X5 [0,1,2,3] (by decide) J (J) (.c J (.c J (.c J (.cons (Xw hk.symm) (.nil))))))
 have hq : (0 : Int) ≤ (k : Int) ∧ (k : Int) ≤ ((els rows).length : Nat) := by omega
 refine Xi [[],[0],[],[],[],[3,4],[2,3,4,5],[2,3,4,5,6],(u9 8),(u9 9),(u9 10),(u9 10),[],[0,1,2,3,4,5,6,7,8,9,10,12],(u9 14)] [[],[32],[],[],[],[35,36],[34,35,36,37],[34,35,36,37,38],[32,33,34,35,36,37,38,39],[32,33,34,35,36,37,38,39,40],[31,32,33,34,35,36,37,38,39,40],[31,32,33,34,35,36,37,38,39,40],[],[6,31,32,33,34,35,36,37,38,39,40,41],[6,31,32,33,34,35,36,37,38,39,40,41,42]] [[6,34,35,36,37,38,39],[6,34,35,36,37,38,39],[6,32,33,35,36,37],[6,32,33,34,36],[6,32,33,34,35],[6,32,33,34],[6,32,33],[6,32,33],[6],[6],[6,42],[6,41],[31,32,33,34,35,36,37,38,39,40,41,42],[42],[],[11]] J (DR.s (Qf J J J J (by decide)) J J (DR.s (Qu J J J J J J) J J (DR.s (Qu J J J J J J) J J (DR.s (Qa J J J) J J (DR.s (Qa J J J) J J (DR.s (q_part0 J J J J J hq) J J ?_))))));refine DR.s (Zi J J (c1) J J J) J J ?_;refine DR.s (Qj J J (c2) J) J J ?_;refine DR.s (Zi J J (c3) J J J) J J ?_;refine DR.s (Q8 J J J) J J (DR.s (Zl J J J J) J J (DR.s (Zl J J J J) J J (DR.s (Qx J J J) J J (DR.stop (by kernel_rfl) (by kernel_rfl) ?_))));refine Qy J J J J J J J J J (z1 J (zz (Qd (zy (z1 J (zz (Qk ?_)))))))
 clear c1 c2 c3 hwb hsz cd cb ca0
 refine A_lq (fun m st => ∃ (i : Nat) (t : Nat),i + m = 60 ∧ (t ≤ rows.length) ∧ st = (⟨_,[(0,L code),(3,.o (.c (.ptr 3 0))),(4,L rows),(6,.o (.c (.ptr 7 0))),(7,B true),(8,I i)],[.row 1 (els (lw 0).Level.Rows),.row 1 (els (lw 0).Scores),.row 9 (els (lw 0).Bodies),.box [.ref 0,jn (lw 0).Tick,jn (lw 0).Seed,.ref 1,.ref 2],.row 1 (els (lw t).Level.Rows),.row 1 (els (lw t).Scores),.row 9 (els (lw t).Bodies),.box [.ref 4,jn (lw t).Tick,jn (lw t).Seed,.ref 5,.ref 6,jn 0]]⟩ : St)) (60) ⟨_,⟨0,k,by omega,hkl,J⟩,W_gj [0,1,2,3,7,8,9,10] J⟩ ?_
 rintro m_A _ ⟨i,t,hk_A,hp_A,rfl⟩
 have ht := htick t hp_A
 by_cases hi : i < 60
 case neg =>
  have f0 : decide ((i : Int) < 60) = false := decide_eq_false (by omega)
  refine Qd (zy (z0 J (z9a J (by assumption) (z0 J (z6 J (z6 J (z6 J (z6 J (z6 J (z6 J ?_))))))))));refine zpF J (zz (Ql J (Q9 (T_x (T_x (Xl (Q0 (zy (z0 J ?_)))))))));refine z0 J (z5 J (z2 J J J (z5 J (z3 J (z5 J ?_)))));refine zx (Qv (b := true) J J J J (by decide)) J ?_;refine zpT J (z1 J (zz (Xa (F_r ?_))))
  exact Xp J J (X3 [] (by decide) J J J)
 have f0 : decide ((i : Int) < 60) = true := decide_eq_true (by omega)
 by_cases hlt : t < rows.length
 case neg =>
  have f1 : decide ((lw t).Tick < ((els rows).length : Int)) = false := decide_eq_false (by omega)
  refine Qd (zy (z0 J (z9a J (by assumption) (z0 J (z5 J (z2 J J J (z5 J (z2 J J J (z5 J (z3 J ?_))))))))));refine z5 J (z0 J (z5 J (zx (Zq J J J) J (z5 J (z9a J (by assumption) (zpT J (zz (Ql J (Q9 (T_x ?_))))))))));refine T_x (Xl (Q0 (zy (z0 J (z0 J (z5 J (z2 J J J (z5 J (z3 J (z5 J ?_))))))))));refine zx (Qv (b := true) J J J J (by decide)) J ?_;refine zpT J (z1 J (zz (Xa (F_r ?_))))
  exact Xp J J (X3 [] (by decide) J J J)
 have f1 : decide ((lw t).Tick < ((els rows).length : Int)) = true := decide_eq_true (by omega)
 have ca1 := L_at code i (by omega) hb
 have ca2 := L_at code ((i : Int) + 1) (by omega) hb
 have h1 := atM_rng code i
 have h2 := atM_rng code ((i : Int) + 1)
 obtain ⟨f,hf⟩ : ∃ f : Nat,(f : Int) = max 0 ((lw t).Tick - atM code i % 5) := ⟨(max 0 ((lw t).Tick - atM code i % 5)).toNat,by omega⟩
 obtain ⟨u,hu⟩ : ∃ u : Nat,(u : Int) = min ((els rows).length : Int) ((f : Int) + 1 + atM code ((i : Int) + 1) % 20) := ⟨(min ((els rows).length : Int) ((f : Int) + 1 + atM code ((i : Int) + 1) % 20)).toNat,by omega⟩
 have hft : f ≤ t := by omega
 have hfu : f < u ∧ u ≤ rows.length ∧ u ≤ f + 20 := by omega
 obtain ⟨rs,hrs⟩ : ∃ rs,rs = (rows.take u).drop f := ⟨_,rfl⟩
 have hers : els rs = ((els rows).take (u : Int).toNat).drop (f : Int).toNat := by rw [hrs,Int.toNat_natCast,Int.toNat_natCast,els_part]
 have grs : Enc.gd rs := by rw [hrs]; exact gd_part gr f u
 have ces := I_EncodeStream (f : Int) rs ⟨by omega,by omega⟩ grs
 have hds := rowsOf R hlen hfu.1 hfu.2.1 hfu.2.2
 rw [← hrs] at hds
 have hhd : (rs.headD []).length ≤ 4 := by
  have hl : 0 < rs.length := by rw [hrs,List.length_drop,List.length_take]; omega
  rw [head_at hl]
  have h9 : ∀ x ∈ rs,x ∈ rows := fun x hx => by rw [hrs] at hx; exact List.mem_of_mem_take (List.mem_of_mem_drop hx)
  have hm := h9 _ (List.getElem_mem hl)
  have := hlen _ hm
  have := R.hn
  omega
 have cds := I_DecodeStream (encodeStream f rs) (encStream_size _ _ hhd)
 rw [hds] at cds
 have wi := hi0 t
 have cf1 := I_FeedRows ⟨lw t,0⟩ f rs wi i64_0 ⟨by omega,by omega⟩ grs
 have cf2 := I_FeedRows ⟨lw t,0⟩ ((t : Int) + 1) rs wi i64_0 ⟨by omega,by omega⟩ grs
 rw [hrs,hfeed hft hp_A,← hrs] at cf1
 rw [hrs,hgap hp_A,← hrs] at cf2
 have csr := L_sameRows rs rs grs
 rw [decide_eq_true rfl] at csr
 have csr : Con Try.prog 13 [] [al rs,.c (.rd [] (.sl (Enc.k (List Int)) (((els rows).take (u : Int).toNat).drop (f : Int).toNat)))] [] (B true) := by rw [← hers]; exact csr
 have csw := S_SameWorld (lw t) (lw t) wi.gd
 rw [decide_eq_true rfl] at csw
 obtain ⟨v,hv⟩ : ∃ v,v = max t u := ⟨_,rfl⟩
 rw [← hv] at cf1
 have hvl : v ≤ rows.length := by omega
 have htv := htick v hvl
 have crv := crun v
 rw [← htv] at crv
 have csv := S_SameWorld (lw v) (lw v) (hi0 v).gd
 rw [decide_eq_true rfl] at csv
 refine Qd (zy (z0 J (z9a J (by assumption) (z0 J (z5 J (z2 J J J (z5 J (z2 J J J (z5 J (z3 J ?_))))))))));refine z5 J (z0 J (z5 J (zx (Zq J J J) J (z5 J (z9a J (by assumption) (zpT J (zz (Qm J (Qh (Q0 ?_))))))))));refine Qd (Qk (Qd (Xi [[],[0],[0,1],[],[],[3,4],[3,4,5],(u9 7),(u9 8),(u9 9)] [[],[55],[55,56],[],[],[58,59],[58,59,60],[55,56,57,58,59,60,61],[55,56,57,58,59,60,61,62],[55,56,57,58,59,60,61,62,63]] [[58,59,60,61],[58,59,60,61],[58,59,60,61],[55,56,57,59],[55,56,57,58],[55,56,57],[55,56,57],[],[],[]] J (DR.s (Qf J J J J (by decide)) J J (DR.s (Qf J J J J (by decide)) J J (DR.s (Qg J J J J J) J J (DR.s (Qa J J J) J J (DR.s (Qa J J J) J J ?_))))))));refine DR.s (Qj J J (ca1) J) J J ?_;refine DR.s (Zz J J J J (by omega)) J J (DR.s (Xc J J J J (by omega)) J J (DR.s (q_max J J J J) J J (DR.s (Qb J J J) J J (DR.stop (by kernel_rfl) (by kernel_rfl) (zz ?_)))))
 refine AWP.pre (st' := (⟨_,[(0,L code),(3,.o (.c (.ptr 3 0))),(4,L rows),(6,.o (.c (.ptr 7 0))),(7,B true),(8,I i),(9,I f)],[.row 1 (els (lw 0).Level.Rows),.row 1 (els (lw 0).Scores),.row 9 (els (lw 0).Bodies),.box [.ref 0,jn (lw 0).Tick,jn (lw 0).Seed,.ref 1,.ref 2],.row 1 (els (lw t).Level.Rows),.row 1 (els (lw t).Scores),.row 9 (els (lw t).Bodies),.box [.ref 4,jn (lw t).Tick,jn (lw t).Seed,.ref 5,.ref 6,jn 0]]⟩ : St)) ?_ (X5 [0,1,2,3,4,5,6,7] (by decide) J (J) (.c J (.c J (.c J (.c J (.c J (.c J (.cons (Xw hf.symm) (.nil)))))))))
 refine zy (z0 J (zx (Zq J J J) J (z0 J (z7 J (by omega) (z0 J (z0 J (z7 J (by omega) ?_)))))));refine zx (Qj J J (ca2) J) J ?_;refine zx (Zz J J J J (by omega)) J (z7 J (by omega) (zx (q_min J J J J) J (z1 J (zz (zy (z0 J (z0 J (z0 J (z0 J ?_)))))))));refine zx (q_part J J J J J J (by omega)) J ?_
 refine AL.weak (st' := (⟨_,[(0,L code),(3,.o (.c (.ptr 3 0))),(4,L rows),(6,.o (.c (.ptr 7 0))),(7,B true),(8,I i),(9,I f),(10,I u),(76,I f),(80,L rs)],[.row 1 (els (lw 0).Level.Rows),.row 1 (els (lw 0).Scores),.row 9 (els (lw 0).Bodies),.box [.ref 0,jn (lw 0).Tick,jn (lw 0).Seed,.ref 1,.ref 2],.row 1 (els (lw t).Level.Rows),.row 1 (els (lw t).Scores),.row 9 (els (lw t).Bodies),.box [.ref 4,jn (lw t).Tick,jn (lw t).Seed,.ref 5,.ref 6,jn 0]]⟩ : St)) (X5 [0,1,2,3,4,5,6,7] (by decide) J (J) (.c J (.c J (.c J (.c J (.c J (.c J (.c J (.cons (Xw hu.symm) (.c J (.cons (rd_eq (by rw [hu] at hers; exact congrArg (T.sl 1) hers.symm)) (.nil)))))))))))) ?_
 refine zx (Qj J J (ces) J) J ?_;refine M1 (Zi J J (cds) J J J) J J ?_;refine zx (Q8 J J J) J (ze J (ze J (ze J (z1 J (z1 J (z1 J (zz (zy (z4 J J J ?_)))))))));refine z0 J (z0 J ?_);refine AL.weak (st' := (⟨_,[(0,L code),(3,.o (.c (.ptr 3 0))),(4,L rows),(6,.o (.c (.ptr 7 0))),(7,B true),(8,I i),(9,I f),(10,I u),(11,I f),(12,.o (.c (.ref 8))),(13,B true),(87,.o (.ag [.ref 4,jn (lw t).Tick,jn (lw t).Seed,.ref 5,.ref 6,jn 0])),(88,I f),(89,.o (.c (.ref 8)))],[.row 1 (els (lw 0).Level.Rows),.row 1 (els (lw 0).Scores),.row 9 (els (lw 0).Bodies),.box [.ref 0,jn (lw 0).Tick,jn (lw 0).Seed,.ref 1,.ref 2],.row 1 (els (lw t).Level.Rows),.row 1 (els (lw t).Scores),.row 9 (els (lw t).Bodies),.box [.ref 4,jn (lw t).Tick,jn (lw t).Seed,.ref 5,.ref 6,jn 0],.row 1 (els rs)]⟩ : St)) (W_gj [0,1,2,3,4,5,6,7,8] J) ?_;refine M1 (Zi J J (cf1) J J J) J J ?_;refine zx (Q8 J J J) J (ze J (ze J (M1 (Qx J J J) J J ?_)));refine Qy J J J J J J J J J (z1 J (zz (zy (z4 J J J (z2 J J J (z2 J J J (z3 J (z7 J (by omega) (z0 J ?_)))))))));refine AL.weak (st' := (⟨_,[(0,L code),(3,.o (.c (.ptr 3 0))),(4,L rows),(6,.o (.c (.ptr 7 0))),(7,B true),(8,I i),(9,I f),(10,I u),(11,I f),(12,.o (.c (.ref 8))),(13,B true),(14,.o (.c (.ptr 12 0))),(15,B true),(94,.o (.ag [.ref 4,jn (lw t).Tick,jn (lw t).Seed,.ref 5,.ref 6,jn 0])),(98,I ((t : Int) + 1)),(99,.o (.c (.ref 8)))],[.row 1 (els (lw 0).Level.Rows),.row 1 (els (lw 0).Scores),.row 9 (els (lw 0).Bodies),.box [.ref 0,jn (lw 0).Tick,jn (lw 0).Seed,.ref 1,.ref 2],.row 1 (els (lw t).Level.Rows),.row 1 (els (lw t).Scores),.row 9 (els (lw t).Bodies),.box [.ref 4,jn (lw t).Tick,jn (lw t).Seed,.ref 5,.ref 6,jn 0],.row 1 (els rs),.row 1 (els (lw v).Level.Rows),.row 1 (els (lw v).Scores),.row 9 (els (lw v).Bodies),.box [.ref 9,jn (lw v).Tick,jn (lw v).Seed,.ref 10,.ref 11,jn 0]]⟩ : St)) (X5 [0,1,2,3,4,5,6,7,8,9,10,11,12] (by decide) J (J) (.c J (.c J (.c J (.c J (.c J (.c J (.c J (.c J (.c J (.c J (.c J (.c J (.c J (.c J (.cons (Xw (by rw [ht])) (.c J (.nil)))))))))))))))))) ?_
 have g1 : decide ((f : Int) ≠ (f : Int)) = false := by simp
 have g2 : decide ((1 : Int) ≠ 0 + 1) = false := by decide
 refine M1 (Zi J J (cf2) J J J) J J ?_;refine zx (Q8 J J J) J (ze J (ze J (M1 (Qx J J J) J J ?_)));refine Qy J J J J J J J J J (z1 J (zz (Qd (zy (z0 J (zn J (z0 J (z5 J (z0 J ?_)))))))));refine z5 J (z0 J (z5 J (z9f J (by assumption) (zpF J (z0 J (z5 J (z0 J (z5 J (z0 J (z5 J (z0 J ?_)))))))))));refine z5 J (z0 J (z5 J (zx (q_part J J J J J J (by omega)) J (z5 J ?_))));refine zx (Qj J J (csr) J) J ?_;refine z5 J (zn J (zpF J (z0 J (z5 J (z0 J (z5 J (zn J (zpF J (z0 J (z5 J (z0 J ?_)))))))))));refine zpF J (z0 J (z5 J (z2 J J J (z5 J (z3 J (z5 J (z2 J J J (z5 J (z3 J (z5 J (z7 J (by omega) ?_)))))))))));refine z5 J (z9f J (by assumption) (zpF J (z0 J (z5 J (z2 J J J (z5 J (z4 J J J (z5 J (z2 J J J (z5 J (z4 J J J ?_)))))))))));refine z5 J ?_;refine zx (Qj J J (csw) J) J ?_;refine z5 J (zn J (zpF J (zz (Ql J (Qh (Q0 (zy (z4 J J J ?_))))))));refine Qy J J J J J J J J J (zz (Qd ?_))
 refine AWP.pre (st' := (⟨_,[(0,L code),(3,.o (.c (.ptr 3 0))),(4,L rows),(6,.o (.c (.ptr 7 0))),(7,B true),(8,I i)],[.row 1 (els (lw 0).Level.Rows),.row 1 (els (lw 0).Scores),.row 9 (els (lw 0).Bodies),.box [.ref 0,jn (lw 0).Tick,jn (lw 0).Seed,.ref 1,.ref 2],.row 1 (els (lw v).Level.Rows),.row 1 (els (lw v).Scores),.row 9 (els (lw v).Bodies),.box [.ref 4,jn (lw v).Tick,jn (lw v).Seed,.ref 5,.ref 6,jn 0]]⟩ : St)) ?_ (W_gj [0,1,2,3,9,10,11,7] J)
 have hqv : (0 : Int) ≤ (lw v).Tick ∧ (lw v).Tick ≤ ((els rows).length : Nat) := by omega
 refine Xi [[],[0],[],[],[],[4],[4,5],[3,4,5,6],[2,3,4,5,6,7],(u9 9),(u9 10)] [[],[143],[],[],[],[147],[147,148],[146,147,148,149],[145,146,147,148,149,150],[143,144,145,146,147,148,149,150,151],[143,144,145,146,147,148,149,150,151,152]] [[145,146,147,148,149,150,151],[145,146,147,148,149,150,151],[143,144,146,147,148,149,150],[143,144,145,147,148,149],[143,144,145,146],[143,144,145,146],[143,144,145,146],[143,144,145],[143,144],[],[]] J (DR.s (Qf J J J J (by decide)) J J (DR.s (Qu J J J J J J) J J (DR.s (Qu J J J J J J) J J (DR.s (Qa J J J) J J (DR.s (Qf J J J J (by decide)) J J (DR.s (Qf J J J J (by decide)) J J (DR.s (Qg J J J J J) J J (DR.s (q_part0 J J J J J hqv) J J ?_))))))));refine DR.s (Zi J J (crv) J J J) J J ?_;refine DR.s (Qj J J (csv) J) J J ?_;refine DR.s (Q4 J J J) J J (DR.stop (by kernel_rfl) (by kernel_rfl) (zz ?_))
 refine AWP.pre (st' := (⟨_,[(0,L code),(3,.o (.c (.ptr 3 0))),(4,L rows),(6,.o (.c (.ptr 7 0))),(7,B true),(8,I i),(153,B false)],[.row 1 (els (lw 0).Level.Rows),.row 1 (els (lw 0).Scores),.row 9 (els (lw 0).Bodies),.box [.ref 0,jn (lw 0).Tick,jn (lw 0).Seed,.ref 1,.ref 2],.row 1 (els (lw v).Level.Rows),.row 1 (els (lw v).Scores),.row 9 (els (lw v).Bodies),.box [.ref 4,jn (lw v).Tick,jn (lw v).Seed,.ref 5,.ref 6,jn 0]]⟩ : St)) ?_ (W_gj [0,1,2,3,4,5,6,7] J)
 refine Ql J (Qh (Q1 (Q0 (Qc (z0 J (z7 J (by omega) (z1 J (zz ?_))))))))
 exact ⟨60 - (i + 1),by omega,_,⟨i + 1,v,by omega,hvl,J⟩,W_gj [0,1,2,3,4,5,6,7] J⟩
end
section
open Go.ChangeShapes Go.WideShapes Go.ChangeAt Go.RowKit

def RL (w : World) (ts : List T) (cs : List Value) : Prop := ∀ (j : Nat) (t : T) (u : Value),ts[j]? = some t → cs[j]? = some u → RO w (fun _ => True) t u
theorem RL.nil {w : World} {cs : List Value} : RL w [] cs := fun _ _ _ h => by simp at h
theorem RL.app {w : World} {ts us : List T} {cs : List Value} {o n : Nat} (h1 : RL w ts ((cs.drop o).take n)) (hn : ts.length = n) (h2 : RL w us (cs.drop (o + n))) : RL w (ts ++ us) (cs.drop o) := fun j t u h3 h4 => by
 rcases Nat.lt_or_ge j ts.length with hj | hj
 ·rw [List.getElem?_append_left hj] at h3
  exact h1 j t u h3 (by rw [List.getElem?_take,if_pos (by omega)]; exact h4)
 ·rw [List.getElem?_append_right hj] at h3
  refine h2 (j - ts.length) t u h3 ?_
  rw [List.getElem?_drop] at h4 ⊢
  rw [← h4]
  congr 1
  omega
instance : RdOf Try.prog 3 Int := rdOf_int Try.underlying3 (by kernel_rfl)
instance : RdOf Try.prog 9 ByteArray := rdOf_string Try.underlying9 (by kernel_rfl)
instance : RdOf Try.prog 27 (List Int) := rdOf_slice Try.underlying27 (by kernel_rfl)
instance : RdOf Try.prog 24 (List ByteArray) := rdOf_slice Try.underlying24 (by kernel_rfl)
instance : RdOf Try.prog 31 (List (List Int)) := rdOf_slice Try.underlying31 (by kernel_rfl)
end
section
open Go.ChangeShapes Go.WideShapes Go.ChangeAt Go.RowKit

theorem rdOf_u8 {P : Program} {t : TypeId} (ht : P.underlying t = some (.int .u8)) (hs : P.cellsOf t = 1) : RdOf P t UInt8 where
 size := hs
 of h := by
  obtain ⟨n,rfl,_,h3⟩ := DataW.trod_int ht h
  have hn : 0 ≤ n ∧ n ≤ 255 := by
   simp [Lit.wf,IntKind.min,IntKind.max,IntKind.signed,IntKind.bits] at h3
   omega
  have h1 : ((UInt8.ofNat n.toNat).toNat : Int) = n := by
   rw [UInt8.toNat_ofNat']
   omega
  refine ⟨UInt8.ofNat n.toNat,trivial,reads_one (t := .v (.int .u8 n)) ?_ (.v _ J)⟩
  show [T.v (.int .u8 ((UInt8.ofNat n.toNat).toNat : Int))] = _
  rw [h1]
instance : RdOf Try.prog 5 UInt8 := rdOf_u8 Try.underlying5 (by kernel_rfl)
instance : RdOf Try.prog 22 (List UInt8) := rdOf_slice Try.underlying22 (by kernel_rfl)
end
end Go.Proofs.Ytbfhboakafjjgaa
