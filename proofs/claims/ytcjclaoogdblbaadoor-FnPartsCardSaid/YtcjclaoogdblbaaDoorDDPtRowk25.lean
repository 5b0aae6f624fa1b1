/-
  Parts of the proof (rules, data, and what functions of the program and of the reference return), among them: Comparing replays: what SameReplay and what it calls return, in the program and in the reference; DifferOf, in the program and in the reference.
  Conditions: those that each theorem names.
-/
import Derived.ChangeKeysEq
import Derived.Test.YtcjclaoogdblbaaDoorDDPtRowk13
import Derived.Test.YtcjclaoogdblbaaDoorDDPtRowk14
import Derived.Test.YtcjclaoogdblbaaDoorDDPtRowk18
set_option linter.unusedSimpArgs false
set_option linter.unusedVariables false
set_option maxRecDepth 8000
set_option maxHeartbeats 8000000
namespace Go.Proofs.YtcjclaoogdblbaaDoor
section
open Go.RowKit

class TyInts (P : Program) (t : TypeId) (n : outParam Nat) : Prop where
 u : P.underlying t = some (.struct (P.fieldsOf t))
 held : P.stoodInHeld t = false
 guard : P.eqGuardType P.depth t = false
 fs : ((P.fieldsOf t).toList.map fun f => (f.name == "_", f.offset, (match P.underlying f.type with | some (.int .i64) => true | _ => false), P.cellsOf f.type)) = (List.range n).map fun i => (false, i, true, 1)
theorem eqInts {P : Program} {w : World} (d : Nat) (xs ys : List Int) (hl : xs.length = ys.length) : ∀ (fs : List Field) (o : Nat), (fs.map fun f => (f.name == "_", f.offset, (match P.underlying f.type with | some (.int .i64) => true | _ => false), P.cellsOf f.type)) = ((List.range xs.length).drop o).map (fun i => (false, i, true, 1)) →
  (Op.eqFields (d + 1) (xs.map (Value.int .i64)).toArray (ys.map (Value.int .i64)).toArray fs).run P w = .ok (decide (xs.drop o = ys.drop o)) w
 | [],o,h => by
  have h1 : ((List.range xs.length).drop o) = [] := by simpa using h.symm
  have h2 : xs.length ≤ o := by simpa using h1
  rw [List.drop_eq_nil_of_le h2,List.drop_eq_nil_of_le (by omega)]
  simp [Op.eqFields]
 | f :: fs,o,h => by
  by_cases ho : o < xs.length
  ·rw [List.drop_eq_getElem_cons (by simpa using ho)] at h
   simp only [List.map_cons,List.cons.injEq,List.getElem_range,Prod.mk.injEq] at h
   obtain ⟨⟨h1,h2,h3,h4⟩,h5⟩ := h
   have hu : P.underlying f.type = some (.int .i64) := by
    split at h3
    ·assumption
    ·cases h3
   have ih := eqInts (w := w) d xs ys hl fs (o + 1) h5
   have hn : f.name ≠ "_" := by simpa using h1
   have hk : P.plainKey f.type = true := by simp [Program.plainKey,hu]
   have p1 : (Go.part f.type (xs.map (Value.int .i64)).toArray f.offset).run P w = .ok (.int .i64 xs[o]) w := run_part_plain w hk (by rw [h2]; simp [ho])
   have p2 : (Go.part f.type (ys.map (Value.int .i64)).toArray f.offset).run P w = .ok (.int .i64 (ys[o]'(by omega))) w := run_part_plain w hk (by rw [h2]; simp [show o < ys.length by omega])
   simp only [Op.eqFields,if_pos hn,Sem.run_bind,p1,p2,Result.andThen_ok,run_equalIn_int w d f.type .i64 .i64 _ _ hu]
   have dx : xs.drop o = xs[o] :: xs.drop (o + 1) := List.drop_eq_getElem_cons ho
   have dy : ys.drop o = ys[o]'(by omega) :: ys.drop (o + 1) := List.drop_eq_getElem_cons (by omega)
   have hd : decide (xs.drop o = ys.drop o) = (decide (xs[o] = ys[o]'(by omega)) && decide (xs.drop (o + 1) = ys.drop (o + 1))) := by
    rw [dx,dy,← Bool.decide_and]
    exact decide_eq_decide.2 (by rw [List.cons.injEq])
   rw [hd]
   by_cases e : xs[o] = ys[o]'(by omega)
   ·rw [decide_eq_true e,Bool.true_and]
    simp [e,ih]
   ·rw [decide_eq_false e,Bool.false_and]
    have e2 : (xs[o] == ys[o]'(by omega)) = false := by simp [e]
    simp [e2]
  ·rw [List.drop_eq_nil_of_le (by simp; omega)] at h
   simp at h
theorem ag_ints {w : World} {H : Hs} {F : Nat → Prop} {ps : List Nat} {cs : List V1} {xs : List Int} {v : Value} (hc : cs = xs.map fun n => V1.rd ps (.v (.int .i64 n))) (h : R2 w H F (.ag cs) v) : v = .agg (xs.map (Value.int .i64)).toArray := by
 obtain ⟨us,rfl,hl,hu⟩ := h
 subst hc
 rw [List.length_map] at hl
 congr 2
 apply List.ext_getElem
 ·simp [hl]
 ·intro i h1 h2
  have h3 := hu i (V1.rd ps (.v (.int .i64 (xs[i]'(by omega))))) us[i] (by simp [show i < xs.length by omega]) (by simp [h1])
  have h4 : RO w (inP H F ps) (.v (.int .i64 (xs[i]'(by omega)))) us[i] := h3
  rw [(RO.plain h4).1]
  simp
section
variable {P : Program} {ops : Array Oper} {o : Oper} {st : St} {m n : Nat} {t t' : TypeId} {y z : Operand} {ps qs : List Nat} {cs ds : List V1} {xs ys : List Int} {b : Bool}
theorem q_aneq [hi : TyInts P t n] (ho : o.op = .binOp .neq t y z t') (hg : o.guard = none) (hy : st.ev y = .o (.ag cs)) (hz : st.ev z = .o (.ag ds)) (hc : cs = xs.map fun n => V1.rd ps (.v (.int .i64 n))) (hd : ds = ys.map fun n => V1.rd qs (.v (.int .i64 n))) (h1 : xs.length = n) (h2 : ys.length = n) (hb : decide (xs ≠ ys) = b) : Qt P ops o st (B b) [] m :=
 .pure hg fun a w H F hr => ⟨.bool b,by
  have e1 := ag_ints (w := w) (H := H) (F := F) hc (by have := hr.ev y; rw [hy] at this; exact this)
  have e2 := ag_ints (w := w) (H := H) (F := F) hd (by have := hr.ev z; rw [hz] at this; exact this)
  have hq := eqInts (P := P) (w := w) 9998 xs ys (by omega) (P.fieldsOf t).toList 0 (by rw [hi.fs,h1]; rfl)
  have hf := run_equalIn_struct (P := P) w 9999 t (xs.map (Value.int .i64)).toArray (ys.map (Value.int .i64)).toArray hi.u hi.held
  rw [hq] at hf
  have hb2 : (!decide (xs = ys)) = b := by rw [← hb]; simp
  simp only [execOp,ho,e1,e2,Sem.run_bind,run_eqGuard_agg w .neq t y z _ _ hi.guard,Result.andThen_ok,run_neq_struct,hf,List.drop_zero,hb2]
  rfl,plainV _ rfl⟩
end
instance : TyInts Tryd.prog 57 9 := ⟨by kernel_rfl,by kernel_rfl,by kernel_rfl,by kernel_rfl⟩
end
section
open Go.RowKit
end
section
open Go.RowKit

theorem row3p {k : Nat} {o o2 : Ob} {a b : List (List T)} (h : a = b) : [o,o2,Ob.row k a] = [o,o2,Ob.row k b] := by rw [h]
theorem X8 {l l' : List ByteArray} {x : ByteArray} (h : l' = l ++ [x]) : els l' = els l ++ [Enc.e x] := by rw [h]; simp [els]
theorem differ_no {a b : TWorld} (h : ¬ (worldOk a = true ∧ worldOk b = true)) : differ a b = [] := if_neg h
theorem differ_ok {a b : TWorld} (h : worldOk a = true) (h2 : worldOk b = true) : differ a b = dD a b (b.Bodies.length - a.Bodies.length) := if_pos ⟨h,h2⟩
theorem sc_T {a b : TWorld} {k : Nat} (h : b.Scores.length ≤ k) : scDiff a b k = true := by rw [scDiff,decide_eq_true h]; rfl
theorem sc_is {a b : TWorld} {k : Nat} (h1 : k < a.Scores.length) (h2 : k < b.Scores.length) : scDiff a b k = decide (a.Scores[k] ≠ b.Scores[k]) := by
 rw [scDiff,decide_eq_false (by omega),Bool.false_or]
 simp [List.getD_eq_getElem?_getD,h1,h2]
theorem bo_T {a b : TWorld} {k : Nat} (h : b.Bodies.length ≤ k) : boDiff a b k = true := by rw [boDiff,decide_eq_true h]; rfl
theorem bo_is {a b : TWorld} {k : Nat} (h1 : k < a.Bodies.length) (h2 : k < b.Bodies.length) : boDiff a b k = decide (bodyInts a.Bodies[k] ≠ bodyInts b.Bodies[k]) := by
 rw [boDiff,decide_eq_false (by omega),Bool.false_or]
 simp [List.getD_eq_getElem?_getD,h1,h2]
theorem dS_len (a b : TWorld) (n : Nat) : (dS a b n).length ≤ 1 + n := by
 have h1 : (dSeed a b).length ≤ 1 := by unfold dSeed; split <;> simp
 have h2 := List.length_filter_le (scDiff a b) (List.range n)
 simp only [dS,List.length_append,List.length_map]
 simp only [List.length_range] at h2
 omega
theorem dB_len (a b : TWorld) (n : Nat) : (dB a b n).length ≤ 1 + a.Scores.length + n := by
 have h1 := dS_len a b a.Scores.length
 have h2 := List.length_filter_le (boDiff a b) (List.range n)
 simp only [dB,List.length_append,List.length_map]
 simp only [List.length_range] at h2
 omega
theorem dC_len (a b : TWorld) (n : Nat) : (dC a b n).length ≤ 1 + a.Scores.length + a.Bodies.length + n := by
 have h1 := dB_len a b a.Bodies.length
 simp only [dC,List.length_append,List.length_map,List.length_range']
 omega
theorem dD_len (a b : TWorld) (n : Nat) : (dD a b n).length ≤ 1 + a.Scores.length + a.Bodies.length + b.Scores.length + n := by
 have h1 := dC_len a b (b.Scores.length - a.Scores.length)
 simp only [dD,List.length_append,List.length_map,List.length_range']
 omega
theorem I_DifferOf (a b : TWorld) (ga : Enc.gd a) (gb : Enc.gd b) : Con Tryd.prog 29 [] [ag a,ag b] [.row 1 (els (differ a b))] (.o (.c (.ref 0))) := by
 have hca := I_WorldOk a ga
 have hcb := I_WorldOk b gb
 cases hoa : worldOk a with
 | false =>
  rw [hoa] at hca
  rw [differ_no (by simp [hoa])]
  refine Con.of Tryd.func29 J Tryd.ntmps29 J (fun E => ?_)
  refine zy (M1 (Qq J J J J) J J (M1 (Qq J J J J) J J (z1 J (zz (Qd (zy (z4 J J J ?_)))))));refine zx (Qj J J (hca) J) J ?_;refine zn J (z0 J (z6 J (z6 J (z6 J (zpT J (zz (Qm J (zy (z1 J ?_)))))))));refine zz (Xa (T_r (F_r ?_)))
  exact Xl J J (W_fill [1] [2] J J (by decide) J J J)
 | true =>
 rw [hoa] at hca
 cases hob : worldOk b with
 | false =>
  rw [hob] at hcb
  rw [differ_no (by simp [hob])]
  refine Con.of Tryd.func29 J Tryd.ntmps29 J (fun E => ?_)
  refine zy (M1 (Qq J J J J) J J (M1 (Qq J J J J) J J (z1 J (zz (Qd (zy (z4 J J J ?_)))))));refine zx (Qj J J (hca) J) J ?_;refine zn J (z0 J (z5 J (z4 J J J (z5 J ?_))));refine zx (Qj J J (hcb) J) J ?_;refine z5 J (zn J (zpF J (zz (Qm J (zy (z1 J (zz (Xa ?_))))))));refine T_r (F_r ?_)
  exact Xl J J (W_fill [1] [2] J J (by decide) J J J)
 | true =>
 rw [hob] at hcb
 rw [differ_ok hoa hob]
 obtain ⟨_,_,_,hn,_,hm,_⟩ := Zl hoa
 obtain ⟨_,_,_,hn2,_,hm2,_⟩ := Zl hob
 have hlsa := X7 a.Scores
 have hlba := X7 a.Bodies
 have hlsb := X7 b.Scores
 have hlbb := X7 b.Bodies
 refine Con.of Tryd.func29 J Tryd.ntmps29 J (fun E => ?_)
 refine zy (M1 (Qq J J J J) J J (M1 (Qq J J J J) J J (z1 J (zz (Qd (zy (z4 J J J ?_)))))));refine zx (Qj J J (hca) J) J ?_;refine zn J (z0 J (z5 J (z4 J J J (z5 J ?_))));refine zx (Qj J J (hcb) J) J ?_;refine z5 J (zn J (zpF J (zz (Ql J (Qh (Q0 (zy (z1 J (Qe ?_)))))))));refine Q0 (Qd (zy (z2 J J J (z3 J (z2 J J J (z3 J (zx (Y9 J J J J) J (zz ?_))))))))
 refine AWP.pre ?_ (W_nil 5 1 J)
 refine Xb J (fun h => ?_) (fun h => ?_)
 ·have hse := of_decide_eq_true h
  have hds : dSeed a b = _ := if_pos hse
  refine Qc (z0 J (M1 (Yt J J J J J J) J J ?_));refine Xp J J J J J J J J J J (by decide) (by decide) ?_;refine z1 J (zz (Qd (zy (z2 J J J (z3 J (zx (Y2 J J J) J (z0 J (zz ?_))))))));refine Qk ?_
  refine Xi (fun m st => ∃ k : Nat,k + m = a.Scores.length ∧ (True) ∧ st = (⟨_,[(2,.o (.c (.ptr 0 0))),(3,.o (.c (.ptr 1 0))),(5,.o (.c (.ref 2))),(28,I (els a.Scores).length),(29,I k)],[.box ((Enc.e a).map (V1.rd [])),.box ((Enc.e b).map (V1.rd [])),.row 1 (els (dS a b k))]⟩ : St)) (a.Scores.length) ⟨(fun k : Nat => (⟨_,[(2,.o (.c (.ptr 0 0))),(3,.o (.c (.ptr 1 0))),(5,.o (.c (.ref 2))),(28,I (els a.Scores).length),(29,I k)],[.box ((Enc.e a).map (V1.rd [])),.box ((Enc.e b).map (V1.rd [])),.row 1 (els (dS a b k))]⟩ : St)) 0,⟨0,by omega,trivial,J⟩,Xu [0,1,2] (by decide) J (row3p (by rw [dS,hds]; rfl)) (.c J (.c J (.c J (.c J (.c J (.nil))))))⟩ ?_
  rintro m_A _ ⟨k,hk_A,hp_A,rfl⟩
  have hdl := dS_len a b k
  have hel := X7 (dS a b k)
  refine zy (zx (Y7 J J J J) J (zz (Qd ?_)))
  refine Xb J (fun h => ?_) (fun h => ?_)
  ·have h3 : k < a.Scores.length := by have := of_decide_eq_true h; omega
   have hat := X6 h3
   have hf := Xm k (by omega)
   have hfs := Yd k
   by_cases h4 : b.Scores.length ≤ k
   ·have hb4 : decide (((els b.Scores).length : Int) ≤ k) = true := decide_eq_true (by omega)
    refine Qh (Q0 (Qd (Qk (zy (z0 J (z1 J (zz (Qd (Xh u8_18 u8_19 u8_20 J ?_)))))))));refine DR.s (Qa J J J) J J (DR.s (Qf J J J J (by decide)) J J (DR.s (Qg J J J J J) J J (DR.s (Y2 J J J) J J (DR.s (Yz J J J J (by assumption)) J J (DR.s (Qa J J J) J J (DR.s (Qt.no J J J J) J J (DR.s (Qt.no J J J J) J J (DR.s (Qt.no J J J J) J J (DR.s (Qt.no J J J J) J J (DR.s (Qt.no J J J J) J J (DR.s (Qt.no J J J J) J J ?_)))))))))));refine DR.s (Qt.no J J J J) J J (DR.s (Qt.no J J J J) J J (DR.s (Qt.no J J J J) J J (DR.s (Qt.no J J J J) J J (DR.s (Qt.no J J J J) J J (DR.s (Qo J J J J) J J (DR.stop (by kernel_rfl) (by kernel_rfl) (zz (Qm J (Qc (z0 J ?_))))))))));refine z0 J ?_;refine zx (Qj J J (hf) J) J ?_
    refine M0 (q_cat J J J J (by simp only [Xz,X4,List.length_cons,List.length_nil,List.length_append]; omega)) J J ?_
    refine M1 (Yt J J J J J J) J J ?_;refine Xp J J J J J J J J J J (by omega) (by omega) ?_;refine z1 J (Qe (Q1 (Q0 (Qc (z7 J (by omega) (z0 J (zz ?_)))))))
    exact ⟨a.Scores.length - (k + 1),by omega,(fun k : Nat => (⟨_,[(2,.o (.c (.ptr 0 0))),(3,.o (.c (.ptr 1 0))),(5,.o (.c (.ref 2))),(28,I (els a.Scores).length),(29,I k)],[.box ((Enc.e a).map (V1.rd [])),.box ((Enc.e b).map (V1.rd [])),.row 1 (els (dS a b k))]⟩ : St)) (k + 1),⟨k + 1,by omega,trivial,J⟩,Xu [0,1,2] (by decide) J (row3p (X8 (Yb _ (sc_T h4)))) (.c J (.c J (.c J (.c J (.c J (.nil))))))⟩
   ·have hb4 : decide (((els b.Scores).length : Int) ≤ k) = false := decide_eq_false (by omega)
    have h5 : k < b.Scores.length := by omega
    have hat2 := X6 h5
    by_cases h6 : a.Scores[k] ≠ b.Scores[k]
    ·have hb6 : decide (a.Scores[k] ≠ b.Scores[k]) = true := decide_eq_true h6
     refine Qh (Q0 (Qd (Qk (zy (z0 J (z1 J (zz (Qd (Xh u8_18 u8_19 u8_20 J ?_)))))))));refine DR.s (Qa J J J) J J (DR.s (Qf J J J J (by decide)) J J (DR.s (Qg J J J J J) J J (DR.s (Y2 J J J) J J (DR.s (Yz J J J J (by assumption)) J J (DR.s (Qa J J J) J J (DR.s (Qt.yes J J J (Qf J J J J (by decide))) J J (DR.s (Qt.yes J J J (Qg J J J J J)) J J (DR.s (Qt.yes J J J (Qa J J J)) J J (DR.s (Qt.yes J J J (Q2 J J J J (by omega) (by assumption) J)) J J (DR.s (Qt.yes J J J (Y6 J J J J)) J J (DR.s (Qt.yes J J J (Qf J J J J (by decide))) J J ?_)))))))))));refine DR.s (Qt.yes J J J (Qg J J J J J)) J J (DR.s (Qt.yes J J J (Qa J J J)) J J (DR.s (Qt.yes J J J (Q2 J J J J (by omega) (by assumption) J)) J J (DR.s (Qt.yes J J J (Y6 J J J J)) J J (DR.s (Qt.yes J J J (Qw J J J J (by assumption))) J J (DR.s (Qn J J J J) J J (DR.stop (by kernel_rfl) (by kernel_rfl) (zz (Qm J (Qc (z0 J ?_))))))))));refine z0 J ?_;refine zx (Qj J J (hf) J) J ?_
     refine M0 (q_cat J J J J (by simp only [Xz,X4,List.length_cons,List.length_nil,List.length_append]; omega)) J J ?_
     refine M1 (Yt J J J J J J) J J ?_;refine Xp J J J J J J J J J J (by omega) (by omega) ?_;refine z1 J (Qe (Q1 (Q0 (Qc (z7 J (by omega) (z0 J (zz ?_)))))))
     exact ⟨a.Scores.length - (k + 1),by omega,(fun k : Nat => (⟨_,[(2,.o (.c (.ptr 0 0))),(3,.o (.c (.ptr 1 0))),(5,.o (.c (.ref 2))),(28,I (els a.Scores).length),(29,I k)],[.box ((Enc.e a).map (V1.rd [])),.box ((Enc.e b).map (V1.rd [])),.row 1 (els (dS a b k))]⟩ : St)) (k + 1),⟨k + 1,by omega,trivial,J⟩,Xu [0,1,2] (by decide) J (row3p (X8 (Yb _ (by rw [sc_is h3 h5,hb6])))) (.c J (.c J (.c J (.c J (.c J (.nil))))))⟩
    ·have hb6 : decide (a.Scores[k] ≠ b.Scores[k]) = false := decide_eq_false h6
     refine Qh (Q0 (Qd (Qk (zy (z0 J (z1 J (zz (Qd (Xh u8_18 u8_19 u8_20 J ?_)))))))));refine DR.s (Qa J J J) J J (DR.s (Qf J J J J (by decide)) J J (DR.s (Qg J J J J J) J J (DR.s (Y2 J J J) J J (DR.s (Yz J J J J (by assumption)) J J (DR.s (Qa J J J) J J (DR.s (Qt.yes J J J (Qf J J J J (by decide))) J J (DR.s (Qt.yes J J J (Qg J J J J J)) J J (DR.s (Qt.yes J J J (Qa J J J)) J J (DR.s (Qt.yes J J J (Q2 J J J J (by omega) (by assumption) J)) J J (DR.s (Qt.yes J J J (Y6 J J J J)) J J (DR.s (Qt.yes J J J (Qf J J J J (by decide))) J J ?_)))))))))));refine DR.s (Qt.yes J J J (Qg J J J J J)) J J (DR.s (Qt.yes J J J (Qa J J J)) J J (DR.s (Qt.yes J J J (Q2 J J J J (by omega) (by assumption) J)) J J (DR.s (Qt.yes J J J (Y6 J J J J)) J J (DR.s (Qt.yes J J J (Qw J J J J (by assumption))) J J (DR.s (Qn J J J J) J J (DR.stop (by kernel_rfl) (by kernel_rfl) (zz (Ql J (Qh (Q1 ?_))))))))));refine Q0 (Qc (z7 J (by omega) (z0 J (zz ?_))))
     exact ⟨a.Scores.length - (k + 1),by omega,(fun k : Nat => (⟨_,[(2,.o (.c (.ptr 0 0))),(3,.o (.c (.ptr 1 0))),(5,.o (.c (.ref 2))),(28,I (els a.Scores).length),(29,I k)],[.box ((Enc.e a).map (V1.rd [])),.box ((Enc.e b).map (V1.rd [])),.row 1 (els (dS a b k))]⟩ : St)) (k + 1),⟨k + 1,by omega,trivial,J⟩,Xu [0,1,2] (by decide) J (row3p (congrArg els (filt_no _ (by rw [sc_is h3 h5,hb6])))) (.c J (.c J (.c J (.c J (.c J (.nil))))))⟩
  have h3 : ¬ k < a.Scores.length := by have := of_decide_eq_false h; omega
  have hk : k = a.Scores.length := by omega
  rw [hk]
  refine Q9 (T_x (T_x (Xj (Q0 (Qd (zy (z2 J J J (z3 J (zx (Y2 J J J) J (z0 J ?_))))))))));refine zz (Qk ?_)
  refine Xi (fun m st => ∃ i : Nat,i + m = a.Bodies.length ∧ (True) ∧ st = (⟨_,[(2,.o (.c (.ptr 0 0))),(3,.o (.c (.ptr 1 0))),(5,.o (.c (.ref 2))),(59,I (els a.Bodies).length),(60,I i)],[.box ((Enc.e a).map (V1.rd [])),.box ((Enc.e b).map (V1.rd [])),.row 1 (els (dB a b i))]⟩ : St)) (a.Bodies.length) ⟨(fun i : Nat => (⟨_,[(2,.o (.c (.ptr 0 0))),(3,.o (.c (.ptr 1 0))),(5,.o (.c (.ref 2))),(59,I (els a.Bodies).length),(60,I i)],[.box ((Enc.e a).map (V1.rd [])),.box ((Enc.e b).map (V1.rd [])),.row 1 (els (dB a b i))]⟩ : St)) 0,⟨0,by omega,trivial,J⟩,Xu [0,1,2] (by decide) J (row3p (by rw [dB]; simp)) (.c J (.c J (.c J (.c J (.c J (.nil))))))⟩ ?_
  rintro m_B _ ⟨i,hk_B,hp_B,rfl⟩
  have hdl := dB_len a b i
  have hel := X7 (dB a b i)
  refine zy (zx (Y7 J J J J) J (zz (Qd ?_)))
  refine Xb J (fun h => ?_) (fun h => ?_)
  ·have h3 : i < a.Bodies.length := by have := of_decide_eq_true h; omega
   have hat := X6 h3
   have hf := Xm i (by omega)
   have hfs := Yd i
   by_cases h4 : b.Bodies.length ≤ i
   ·have hb4 : decide (((els b.Bodies).length : Int) ≤ i) = true := decide_eq_true (by omega)
    refine Qh (Q0 (Qd (Qk (zy (z0 J (z1 J (zz (Qd (Xh u8_18 u8_21 u8_22 J ?_)))))))));refine DR.s (Qa J J J) J J (DR.s (Qf J J J J (by decide)) J J (DR.s (Qg J J J J J) J J (DR.s (Y2 J J J) J J (DR.s (Yz J J J J (by assumption)) J J (DR.s (Qa J J J) J J (DR.s (Qt.no J J J J) J J (DR.s (Qt.no J J J J) J J (DR.s (Qt.no J J J J) J J (DR.s (Qt.no J J J J) J J (DR.s (Qt.no J J J J) J J (DR.s (Qt.no J J J J) J J ?_)))))))))));refine DR.s (Qt.no J J J J) J J (DR.s (Qt.no J J J J) J J (DR.s (Qt.no J J J J) J J (DR.s (Qt.no J J J J) J J (DR.s (Qt.no J J J J) J J (DR.s (Qo J J J J) J J (DR.stop (by kernel_rfl) (by kernel_rfl) (zz (Qm J (Qc (z0 J ?_))))))))));refine z0 J ?_;refine zx (Qj J J (hf) J) J ?_
    refine M0 (q_cat J J J J (by simp only [Xz,X4,List.length_cons,List.length_nil,List.length_append]; omega)) J J ?_
    refine M1 (Yt J J J J J J) J J ?_;refine Xp J J J J J J J J J J (by omega) (by omega) ?_;refine z1 J (Qe (Q1 (Q0 (Qc (z7 J (by omega) (z0 J (zz ?_)))))))
    exact ⟨a.Bodies.length - (i + 1),by omega,(fun i : Nat => (⟨_,[(2,.o (.c (.ptr 0 0))),(3,.o (.c (.ptr 1 0))),(5,.o (.c (.ref 2))),(59,I (els a.Bodies).length),(60,I i)],[.box ((Enc.e a).map (V1.rd [])),.box ((Enc.e b).map (V1.rd [])),.row 1 (els (dB a b i))]⟩ : St)) (i + 1),⟨i + 1,by omega,trivial,J⟩,Xu [0,1,2] (by decide) J (row3p (X8 (Yb _ (bo_T h4)))) (.c J (.c J (.c J (.c J (.c J (.nil))))))⟩
   ·have hb4 : decide (((els b.Bodies).length : Int) ≤ i) = false := decide_eq_false (by omega)
    have h5 : i < b.Bodies.length := by omega
    have hat2 := X6 h5
    by_cases h6 : bodyInts a.Bodies[i] ≠ bodyInts b.Bodies[i]
    ·have hb6 : decide (bodyInts a.Bodies[i] ≠ bodyInts b.Bodies[i]) = true := decide_eq_true h6
     refine Qh (Q0 (Qd (Qk (zy (z0 J (z1 J (zz (Qd (Xh u8_18 u8_21 u8_22 J ?_)))))))));refine DR.s (Qa J J J) J J (DR.s (Qf J J J J (by decide)) J J (DR.s (Qg J J J J J) J J (DR.s (Y2 J J J) J J (DR.s (Yz J J J J (by assumption)) J J (DR.s (Qa J J J) J J (DR.s (Qt.yes J J J (Qf J J J J (by decide))) J J (DR.s (Qt.yes J J J (Qg J J J J J)) J J (DR.s (Qt.yes J J J (Qa J J J)) J J (DR.s (Qt.yes J J J (Q2 J J J J (by omega) (by assumption) J)) J J (DR.s (Qt.yes J J J (q_lrN J J J J J)) J J (DR.s (Qt.yes J J J (Qf J J J J (by decide))) J J ?_)))))))))));refine DR.s (Qt.yes J J J (Qg J J J J J)) J J (DR.s (Qt.yes J J J (Qa J J J)) J J (DR.s (Qt.yes J J J (Q2 J J J J (by omega) (by assumption) J)) J J (DR.s (Qt.yes J J J (q_lrN J J J J J)) J J ?_)));refine DR.s (Qt.yes J J J (q_aneq (ps := []) (qs := []) (xs := bodyInts a.Bodies[i]) (ys := bodyInts b.Bodies[i]) J J J J J J J J hb6)) J J ?_;refine DR.s (Qn J J J J) J J (DR.stop (by kernel_rfl) (by kernel_rfl) (zz (Qm J (Qc (z0 J (z0 J ?_))))));refine zx (Qj J J (hf) J) J ?_
     refine M0 (q_cat J J J J (by simp only [Xz,X4,List.length_cons,List.length_nil,List.length_append]; omega)) J J ?_
     refine M1 (Yt J J J J J J) J J ?_;refine Xp J J J J J J J J J J (by omega) (by omega) ?_;refine z1 J (Qe (Q1 (Q0 (Qc (z7 J (by omega) (z0 J (zz ?_)))))))
     exact ⟨a.Bodies.length - (i + 1),by omega,(fun i : Nat => (⟨_,[(2,.o (.c (.ptr 0 0))),(3,.o (.c (.ptr 1 0))),(5,.o (.c (.ref 2))),(59,I (els a.Bodies).length),(60,I i)],[.box ((Enc.e a).map (V1.rd [])),.box ((Enc.e b).map (V1.rd [])),.row 1 (els (dB a b i))]⟩ : St)) (i + 1),⟨i + 1,by omega,trivial,J⟩,Xu [0,1,2] (by decide) J (row3p (X8 (Yb _ (by rw [bo_is h3 h5,hb6])))) (.c J (.c J (.c J (.c J (.c J (.nil))))))⟩
    ·have hb6 : decide (bodyInts a.Bodies[i] ≠ bodyInts b.Bodies[i]) = false := decide_eq_false h6
     refine Qh (Q0 (Qd (Qk (zy (z0 J (z1 J (zz (Qd (Xh u8_18 u8_21 u8_22 J ?_)))))))));refine DR.s (Qa J J J) J J (DR.s (Qf J J J J (by decide)) J J (DR.s (Qg J J J J J) J J (DR.s (Y2 J J J) J J (DR.s (Yz J J J J (by assumption)) J J (DR.s (Qa J J J) J J (DR.s (Qt.yes J J J (Qf J J J J (by decide))) J J (DR.s (Qt.yes J J J (Qg J J J J J)) J J (DR.s (Qt.yes J J J (Qa J J J)) J J (DR.s (Qt.yes J J J (Q2 J J J J (by omega) (by assumption) J)) J J (DR.s (Qt.yes J J J (q_lrN J J J J J)) J J (DR.s (Qt.yes J J J (Qf J J J J (by decide))) J J ?_)))))))))));refine DR.s (Qt.yes J J J (Qg J J J J J)) J J (DR.s (Qt.yes J J J (Qa J J J)) J J (DR.s (Qt.yes J J J (Q2 J J J J (by omega) (by assumption) J)) J J (DR.s (Qt.yes J J J (q_lrN J J J J J)) J J ?_)));refine DR.s (Qt.yes J J J (q_aneq (ps := []) (qs := []) (xs := bodyInts a.Bodies[i]) (ys := bodyInts b.Bodies[i]) J J J J J J J J hb6)) J J ?_;refine DR.s (Qn J J J J) J J (DR.stop (by kernel_rfl) (by kernel_rfl) (zz (Ql J (Qh (Q1 (Q0 (Qc (z7 J (by omega) (z0 J (Qe ?_))))))))));refine Q0 ?_
     exact ⟨a.Bodies.length - (i + 1),by omega,(fun i : Nat => (⟨_,[(2,.o (.c (.ptr 0 0))),(3,.o (.c (.ptr 1 0))),(5,.o (.c (.ref 2))),(59,I (els a.Bodies).length),(60,I i)],[.box ((Enc.e a).map (V1.rd [])),.box ((Enc.e b).map (V1.rd [])),.row 1 (els (dB a b i))]⟩ : St)) (i + 1),⟨i + 1,by omega,trivial,J⟩,Xu [0,1,2] (by decide) J (row3p (congrArg els (filt_no _ (by rw [bo_is h3 h5,hb6])))) (.c J (.c J (.c J (.c J (.c J (.nil))))))⟩
  have h3 : ¬ i < a.Bodies.length := by have := of_decide_eq_false h; omega
  have hk2 : i = a.Bodies.length := by omega
  rw [hk2]
  refine Q9 (T_x (T_x (Xj (Q0 (Qd (zy (z2 J J J (z3 J (zx (Y2 J J J) J (z1 J ?_))))))))));refine zz (Qk ?_)
  refine Xi (fun m__ st => ∃ (j : Nat),b.Scores.length - a.Scores.length - j = m__ ∧ (j ≤ b.Scores.length - a.Scores.length) ∧ st = (⟨_,[(2,.o (.c (.ptr 0 0))),(3,.o (.c (.ptr 1 0))),(5,.o (.c (.ref 2))),(8,I ((a.Scores.length + j : Nat) : Int))],[.box ((Enc.e a).map (V1.rd [])),.box ((Enc.e b).map (V1.rd [])),.row 1 (els (dC a b j))]⟩ : St)) _ ⟨(fun (j : Nat) => (⟨_,[(2,.o (.c (.ptr 0 0))),(3,.o (.c (.ptr 1 0))),(5,.o (.c (.ref 2))),(8,I ((a.Scores.length + j : Nat) : Int))],[.box ((Enc.e a).map (V1.rd [])),.box ((Enc.e b).map (V1.rd [])),.row 1 (els (dC a b j))]⟩ : St)) (0),⟨0,J,Nat.zero_le _,J⟩,Xu [0,1,2] (by decide) J (row3p (by rw [dC]; simp)) (.c J (.c J (.c J (.cons (Xo (by omega)) (.nil)))))⟩ ?_
  rintro m_C _ ⟨j,hk_C,hp_C,rfl⟩
  have hdl := dC_len a b j
  have hel := X7 (dC a b j)
  refine Qd (zy (z0 J (z2 J J J (z3 J (zx (Y2 J J J) J (zx (Y7 J J J J) J (zz ?_)))))))
  refine Xb J (fun h => ?_) (fun h => ?_)
  ·have h3 : a.Scores.length + j < b.Scores.length := by have := of_decide_eq_true h; omega
   have hf := Xm (a.Scores.length + j) (by omega)
   have hfs := Yd (a.Scores.length + j)
   refine Qh (Q0 (Qd (Qk (Qc (z0 J (z0 J ?_))))));refine zx (Qj J J (hf) J) J ?_
   refine M0 (q_cat J J J J (by simp only [Xz,X4,List.length_cons,List.length_nil,List.length_append]; omega)) J J ?_
   refine M1 (Yt J J J J J J) J J ?_;refine Xp J J J J J J J J J J (by omega) (by omega) ?_;refine z1 J (Qe (Q1 (Q0 (Qc (z0 J (z7 J (by omega) (z1 J (zz ?_))))))))
   refine ⟨_,(by omega),(fun (j : Nat) => (⟨_,[(2,.o (.c (.ptr 0 0))),(3,.o (.c (.ptr 1 0))),(5,.o (.c (.ref 2))),(8,I ((a.Scores.length + j : Nat) : Int))],[.box ((Enc.e a).map (V1.rd [])),.box ((Enc.e b).map (V1.rd [])),.row 1 (els (dC a b j))]⟩ : St)) (j + 1),⟨j + 1,J,by omega,J⟩,Xu [0,1,2] (by decide) J (row3p (X8 (rng_snoc _))) (.c J (.c J (.c J (.cons (Xo (by omega)) (.nil)))))⟩
  have h3 : ¬ a.Scores.length + j < b.Scores.length := by have := of_decide_eq_false h; omega
  have hk3 : j = b.Scores.length - a.Scores.length := by omega
  rw [hk3]
  refine Q9 (T_x (T_x (Xj (Q0 (Qd (zy (z2 J J J (z3 J (zx (Y2 J J J) J (z1 J ?_))))))))));refine zz (Qk ?_)
  refine Xi (fun m__ st => ∃ (q : Nat),b.Bodies.length - a.Bodies.length - q = m__ ∧ (q ≤ b.Bodies.length - a.Bodies.length) ∧ st = (⟨_,[(2,.o (.c (.ptr 0 0))),(3,.o (.c (.ptr 1 0))),(5,.o (.c (.ref 2))),(9,I ((a.Bodies.length + q : Nat) : Int))],[.box ((Enc.e a).map (V1.rd [])),.box ((Enc.e b).map (V1.rd [])),.row 1 (els (dD a b q))]⟩ : St)) _ ⟨(fun (q : Nat) => (⟨_,[(2,.o (.c (.ptr 0 0))),(3,.o (.c (.ptr 1 0))),(5,.o (.c (.ref 2))),(9,I ((a.Bodies.length + q : Nat) : Int))],[.box ((Enc.e a).map (V1.rd [])),.box ((Enc.e b).map (V1.rd [])),.row 1 (els (dD a b q))]⟩ : St)) (0),⟨0,J,Nat.zero_le _,J⟩,Xu [0,1,2] (by decide) J (row3p (by rw [dD]; simp)) (.c J (.c J (.c J (.cons (Xo (by omega)) (.nil)))))⟩ ?_
  rintro m_D _ ⟨q,hk_D,hp_D,rfl⟩
  have hdl := dD_len a b q
  have hel := X7 (dD a b q)
  refine Qd (zy (z0 J (z2 J J J (z3 J (zx (Y2 J J J) J (zx (Y7 J J J J) J (zz ?_)))))))
  refine Xb J (fun h => ?_) (fun h => ?_)
  ·have h3 : a.Bodies.length + q < b.Bodies.length := by have := of_decide_eq_true h; omega
   have hf := Xm (a.Bodies.length + q) (by omega)
   have hfs := Yd (a.Bodies.length + q)
   refine Qh (Q0 (Qd (Qk (Qc (z0 J (z0 J ?_))))));refine zx (Qj J J (hf) J) J ?_
   refine M0 (q_cat J J J J (by simp only [Xz,X4,List.length_cons,List.length_nil,List.length_append]; omega)) J J ?_
   refine M1 (Yt J J J J J J) J J ?_;refine Xp J J J J J J J J J J (by omega) (by omega) ?_;refine z1 J (Qe (Q1 (Q0 (Qc (z0 J (z7 J (by omega) (z1 J (zz ?_))))))))
   refine ⟨_,(by omega),(fun (q : Nat) => (⟨_,[(2,.o (.c (.ptr 0 0))),(3,.o (.c (.ptr 1 0))),(5,.o (.c (.ref 2))),(9,I ((a.Bodies.length + q : Nat) : Int))],[.box ((Enc.e a).map (V1.rd [])),.box ((Enc.e b).map (V1.rd [])),.row 1 (els (dD a b q))]⟩ : St)) (q + 1),⟨q + 1,J,by omega,J⟩,Xu [0,1,2] (by decide) J (row3p (X8 (rng_snoc _))) (.c J (.c J (.c J (.cons (Xo (by omega)) (.nil)))))⟩
  have h3 : ¬ a.Bodies.length + q < b.Bodies.length := by have := of_decide_eq_false h; omega
  have hk4 : q = b.Bodies.length - a.Bodies.length := by omega
  rw [hk4]
  refine Q9 (T_x (T_x (Xj (Q0 (zy (z0 J (z1 J (zz (Xa ?_)))))))));refine F_r ?_
  exact Xl J J (Xs [2] (by decide) J J J)
 ·have hse := of_decide_eq_false h
  have hds : dSeed a b = _ := if_neg hse
  refine Qh (Q0 (Qd (zy (z2 J J J (z3 J (zx (Y2 J J J) J (z0 J (zz (Qk ?_)))))))))
  refine Xi (fun m st => ∃ k : Nat,k + m = a.Scores.length ∧ (True) ∧ st = (⟨_,[(2,.o (.c (.ptr 0 0))),(3,.o (.c (.ptr 1 0))),(5,.o (.c (.ref 2))),(28,I (els a.Scores).length),(29,I k)],[.box ((Enc.e a).map (V1.rd [])),.box ((Enc.e b).map (V1.rd [])),.row 1 (els (dS a b k))]⟩ : St)) (a.Scores.length) ⟨(fun k : Nat => (⟨_,[(2,.o (.c (.ptr 0 0))),(3,.o (.c (.ptr 1 0))),(5,.o (.c (.ref 2))),(28,I (els a.Scores).length),(29,I k)],[.box ((Enc.e a).map (V1.rd [])),.box ((Enc.e b).map (V1.rd [])),.row 1 (els (dS a b k))]⟩ : St)) 0,⟨0,by omega,trivial,J⟩,Xu [0,1,2] (by decide) J (row3p (by rw [dS,hds]; rfl)) (.c J (.c J (.c J (.c J (.c J (.nil))))))⟩ ?_
  rintro m_A _ ⟨k,hk_A,hp_A,rfl⟩
  have hdl := dS_len a b k
  have hel := X7 (dS a b k)
  refine zy (zx (Y7 J J J J) J (zz (Qd ?_)))
  refine Xb J (fun h => ?_) (fun h => ?_)
  ·have h3 : k < a.Scores.length := by have := of_decide_eq_true h; omega
   have hat := X6 h3
   have hf := Xm k (by omega)
   have hfs := Yd k
   by_cases h4 : b.Scores.length ≤ k
   ·have hb4 : decide (((els b.Scores).length : Int) ≤ k) = true := decide_eq_true (by omega)
    refine Qh (Q0 (Qd (Qk (zy (z0 J (z1 J (zz (Qd (Xh u8_18 u8_19 u8_20 J ?_)))))))));refine DR.s (Qa J J J) J J (DR.s (Qf J J J J (by decide)) J J (DR.s (Qg J J J J J) J J (DR.s (Y2 J J J) J J (DR.s (Yz J J J J (by assumption)) J J (DR.s (Qa J J J) J J (DR.s (Qt.no J J J J) J J (DR.s (Qt.no J J J J) J J (DR.s (Qt.no J J J J) J J (DR.s (Qt.no J J J J) J J (DR.s (Qt.no J J J J) J J (DR.s (Qt.no J J J J) J J ?_)))))))))));refine DR.s (Qt.no J J J J) J J (DR.s (Qt.no J J J J) J J (DR.s (Qt.no J J J J) J J (DR.s (Qt.no J J J J) J J (DR.s (Qt.no J J J J) J J (DR.s (Qo J J J J) J J (DR.stop (by kernel_rfl) (by kernel_rfl) (zz (Qm J (Qc (z0 J ?_))))))))));refine z0 J ?_;refine zx (Qj J J (hf) J) J ?_
    refine M0 (q_cat J J J J (by simp only [Xz,X4,List.length_cons,List.length_nil,List.length_append]; omega)) J J ?_
    refine M1 (Yt J J J J J J) J J ?_;refine Xp J J J J J J J J J J (by omega) (by omega) ?_;refine z1 J (Qe (Q1 (Q0 (Qc (z7 J (by omega) (z0 J (zz ?_)))))))
    exact ⟨a.Scores.length - (k + 1),by omega,(fun k : Nat => (⟨_,[(2,.o (.c (.ptr 0 0))),(3,.o (.c (.ptr 1 0))),(5,.o (.c (.ref 2))),(28,I (els a.Scores).length),(29,I k)],[.box ((Enc.e a).map (V1.rd [])),.box ((Enc.e b).map (V1.rd [])),.row 1 (els (dS a b k))]⟩ : St)) (k + 1),⟨k + 1,by omega,trivial,J⟩,Xu [0,1,2] (by decide) J (row3p (X8 (Yb _ (sc_T h4)))) (.c J (.c J (.c J (.c J (.c J (.nil))))))⟩
   ·have hb4 : decide (((els b.Scores).length : Int) ≤ k) = false := decide_eq_false (by omega)
    have h5 : k < b.Scores.length := by omega
    have hat2 := X6 h5
    by_cases h6 : a.Scores[k] ≠ b.Scores[k]
    ·have hb6 : decide (a.Scores[k] ≠ b.Scores[k]) = true := decide_eq_true h6
     refine Qh (Q0 (Qd (Qk (zy (z0 J (z1 J (zz (Qd (Xh u8_18 u8_19 u8_20 J ?_)))))))));refine DR.s (Qa J J J) J J (DR.s (Qf J J J J (by decide)) J J (DR.s (Qg J J J J J) J J (DR.s (Y2 J J J) J J (DR.s (Yz J J J J (by assumption)) J J (DR.s (Qa J J J) J J (DR.s (Qt.yes J J J (Qf J J J J (by decide))) J J (DR.s (Qt.yes J J J (Qg J J J J J)) J J (DR.s (Qt.yes J J J (Qa J J J)) J J (DR.s (Qt.yes J J J (Q2 J J J J (by omega) (by assumption) J)) J J (DR.s (Qt.yes J J J (Y6 J J J J)) J J (DR.s (Qt.yes J J J (Qf J J J J (by decide))) J J ?_)))))))))));refine DR.s (Qt.yes J J J (Qg J J J J J)) J J (DR.s (Qt.yes J J J (Qa J J J)) J J (DR.s (Qt.yes J J J (Q2 J J J J (by omega) (by assumption) J)) J J (DR.s (Qt.yes J J J (Y6 J J J J)) J J (DR.s (Qt.yes J J J (Qw J J J J (by assumption))) J J (DR.s (Qn J J J J) J J (DR.stop (by kernel_rfl) (by kernel_rfl) (zz (Qm J (Qc (z0 J ?_))))))))));refine z0 J ?_;refine zx (Qj J J (hf) J) J ?_
     refine M0 (q_cat J J J J (by simp only [Xz,X4,List.length_cons,List.length_nil,List.length_append]; omega)) J J ?_
     refine M1 (Yt J J J J J J) J J ?_;refine Xp J J J J J J J J J J (by omega) (by omega) ?_;refine z1 J (Qe (Q1 (Q0 (Qc (z7 J (by omega) (z0 J (zz ?_)))))))
     exact ⟨a.Scores.length - (k + 1),by omega,(fun k : Nat => (⟨_,[(2,.o (.c (.ptr 0 0))),(3,.o (.c (.ptr 1 0))),(5,.o (.c (.ref 2))),(28,I (els a.Scores).length),(29,I k)],[.box ((Enc.e a).map (V1.rd [])),.box ((Enc.e b).map (V1.rd [])),.row 1 (els (dS a b k))]⟩ : St)) (k + 1),⟨k + 1,by omega,trivial,J⟩,Xu [0,1,2] (by decide) J (row3p (X8 (Yb _ (by rw [sc_is h3 h5,hb6])))) (.c J (.c J (.c J (.c J (.c J (.nil))))))⟩
    ·have hb6 : decide (a.Scores[k] ≠ b.Scores[k]) = false := decide_eq_false h6
     refine Qh (Q0 (Qd (Qk (zy (z0 J (z1 J (zz (Qd (Xh u8_18 u8_19 u8_20 J ?_)))))))));refine DR.s (Qa J J J) J J (DR.s (Qf J J J J (by decide)) J J (DR.s (Qg J J J J J) J J (DR.s (Y2 J J J) J J (DR.s (Yz J J J J (by assumption)) J J (DR.s (Qa J J J) J J (DR.s (Qt.yes J J J (Qf J J J J (by decide))) J J (DR.s (Qt.yes J J J (Qg J J J J J)) J J (DR.s (Qt.yes J J J (Qa J J J)) J J (DR.s (Qt.yes J J J (Q2 J J J J (by omega) (by assumption) J)) J J (DR.s (Qt.yes J J J (Y6 J J J J)) J J (DR.s (Qt.yes J J J (Qf J J J J (by decide))) J J ?_)))))))))));refine DR.s (Qt.yes J J J (Qg J J J J J)) J J (DR.s (Qt.yes J J J (Qa J J J)) J J (DR.s (Qt.yes J J J (Q2 J J J J (by omega) (by assumption) J)) J J (DR.s (Qt.yes J J J (Y6 J J J J)) J J (DR.s (Qt.yes J J J (Qw J J J J (by assumption))) J J (DR.s (Qn J J J J) J J (DR.stop (by kernel_rfl) (by kernel_rfl) (zz (Ql J (Qh (Q1 ?_))))))))));refine Q0 (Qc (z7 J (by omega) (z0 J (zz ?_))))
     exact ⟨a.Scores.length - (k + 1),by omega,(fun k : Nat => (⟨_,[(2,.o (.c (.ptr 0 0))),(3,.o (.c (.ptr 1 0))),(5,.o (.c (.ref 2))),(28,I (els a.Scores).length),(29,I k)],[.box ((Enc.e a).map (V1.rd [])),.box ((Enc.e b).map (V1.rd [])),.row 1 (els (dS a b k))]⟩ : St)) (k + 1),⟨k + 1,by omega,trivial,J⟩,Xu [0,1,2] (by decide) J (row3p (congrArg els (filt_no _ (by rw [sc_is h3 h5,hb6])))) (.c J (.c J (.c J (.c J (.c J (.nil))))))⟩
  have h3 : ¬ k < a.Scores.length := by have := of_decide_eq_false h; omega
  have hk : k = a.Scores.length := by omega
  rw [hk]
  refine Q9 (T_x (T_x (Xj (Q0 (Qd (zy (z2 J J J (z3 J (zx (Y2 J J J) J (z0 J ?_))))))))));refine zz (Qk ?_)
  refine Xi (fun m st => ∃ i : Nat,i + m = a.Bodies.length ∧ (True) ∧ st = (⟨_,[(2,.o (.c (.ptr 0 0))),(3,.o (.c (.ptr 1 0))),(5,.o (.c (.ref 2))),(59,I (els a.Bodies).length),(60,I i)],[.box ((Enc.e a).map (V1.rd [])),.box ((Enc.e b).map (V1.rd [])),.row 1 (els (dB a b i))]⟩ : St)) (a.Bodies.length) ⟨(fun i : Nat => (⟨_,[(2,.o (.c (.ptr 0 0))),(3,.o (.c (.ptr 1 0))),(5,.o (.c (.ref 2))),(59,I (els a.Bodies).length),(60,I i)],[.box ((Enc.e a).map (V1.rd [])),.box ((Enc.e b).map (V1.rd [])),.row 1 (els (dB a b i))]⟩ : St)) 0,⟨0,by omega,trivial,J⟩,Xu [0,1,2] (by decide) J (row3p (by rw [dB]; simp)) (.c J (.c J (.c J (.c J (.c J (.nil))))))⟩ ?_
  rintro m_B _ ⟨i,hk_B,hp_B,rfl⟩
  have hdl := dB_len a b i
  have hel := X7 (dB a b i)
  refine zy (zx (Y7 J J J J) J (zz (Qd ?_)))
  refine Xb J (fun h => ?_) (fun h => ?_)
  ·have h3 : i < a.Bodies.length := by have := of_decide_eq_true h; omega
   have hat := X6 h3
   have hf := Xm i (by omega)
   have hfs := Yd i
   by_cases h4 : b.Bodies.length ≤ i
   ·have hb4 : decide (((els b.Bodies).length : Int) ≤ i) = true := decide_eq_true (by omega)
    refine Qh (Q0 (Qd (Qk (zy (z0 J (z1 J (zz (Qd (Xh u8_18 u8_21 u8_22 J ?_)))))))));refine DR.s (Qa J J J) J J (DR.s (Qf J J J J (by decide)) J J (DR.s (Qg J J J J J) J J (DR.s (Y2 J J J) J J (DR.s (Yz J J J J (by assumption)) J J (DR.s (Qa J J J) J J (DR.s (Qt.no J J J J) J J (DR.s (Qt.no J J J J) J J (DR.s (Qt.no J J J J) J J (DR.s (Qt.no J J J J) J J (DR.s (Qt.no J J J J) J J (DR.s (Qt.no J J J J) J J ?_)))))))))));refine DR.s (Qt.no J J J J) J J (DR.s (Qt.no J J J J) J J (DR.s (Qt.no J J J J) J J (DR.s (Qt.no J J J J) J J (DR.s (Qt.no J J J J) J J (DR.s (Qo J J J J) J J (DR.stop (by kernel_rfl) (by kernel_rfl) (zz (Qm J (Qc (z0 J ?_))))))))));refine z0 J ?_;refine zx (Qj J J (hf) J) J ?_
    refine M0 (q_cat J J J J (by simp only [Xz,X4,List.length_cons,List.length_nil,List.length_append]; omega)) J J ?_
    refine M1 (Yt J J J J J J) J J ?_;refine Xp J J J J J J J J J J (by omega) (by omega) ?_;refine z1 J (Qe (Q1 (Q0 (Qc (z7 J (by omega) (z0 J (zz ?_)))))))
    exact ⟨a.Bodies.length - (i + 1),by omega,(fun i : Nat => (⟨_,[(2,.o (.c (.ptr 0 0))),(3,.o (.c (.ptr 1 0))),(5,.o (.c (.ref 2))),(59,I (els a.Bodies).length),(60,I i)],[.box ((Enc.e a).map (V1.rd [])),.box ((Enc.e b).map (V1.rd [])),.row 1 (els (dB a b i))]⟩ : St)) (i + 1),⟨i + 1,by omega,trivial,J⟩,Xu [0,1,2] (by decide) J (row3p (X8 (Yb _ (bo_T h4)))) (.c J (.c J (.c J (.c J (.c J (.nil))))))⟩
   ·have hb4 : decide (((els b.Bodies).length : Int) ≤ i) = false := decide_eq_false (by omega)
    have h5 : i < b.Bodies.length := by omega
    have hat2 := X6 h5
    by_cases h6 : bodyInts a.Bodies[i] ≠ bodyInts b.Bodies[i]
    ·have hb6 : decide (bodyInts a.Bodies[i] ≠ bodyInts b.Bodies[i]) = true := decide_eq_true h6
     refine Qh (Q0 (Qd (Qk (zy (z0 J (z1 J (zz (Qd (Xh u8_18 u8_21 u8_22 J ?_)))))))));refine DR.s (Qa J J J) J J (DR.s (Qf J J J J (by decide)) J J (DR.s (Qg J J J J J) J J (DR.s (Y2 J J J) J J (DR.s (Yz J J J J (by assumption)) J J (DR.s (Qa J J J) J J (DR.s (Qt.yes J J J (Qf J J J J (by decide))) J J (DR.s (Qt.yes J J J (Qg J J J J J)) J J (DR.s (Qt.yes J J J (Qa J J J)) J J (DR.s (Qt.yes J J J (Q2 J J J J (by omega) (by assumption) J)) J J (DR.s (Qt.yes J J J (q_lrN J J J J J)) J J (DR.s (Qt.yes J J J (Qf J J J J (by decide))) J J ?_)))))))))));refine DR.s (Qt.yes J J J (Qg J J J J J)) J J (DR.s (Qt.yes J J J (Qa J J J)) J J (DR.s (Qt.yes J J J (Q2 J J J J (by omega) (by assumption) J)) J J (DR.s (Qt.yes J J J (q_lrN J J J J J)) J J ?_)));refine DR.s (Qt.yes J J J (q_aneq (ps := []) (qs := []) (xs := bodyInts a.Bodies[i]) (ys := bodyInts b.Bodies[i]) J J J J J J J J hb6)) J J ?_;refine DR.s (Qn J J J J) J J (DR.stop (by kernel_rfl) (by kernel_rfl) (zz (Qm J (Qc (z0 J (z0 J ?_))))));refine zx (Qj J J (hf) J) J ?_
     refine M0 (q_cat J J J J (by simp only [Xz,X4,List.length_cons,List.length_nil,List.length_append]; omega)) J J ?_
     refine M1 (Yt J J J J J J) J J ?_;refine Xp J J J J J J J J J J (by omega) (by omega) ?_;refine z1 J (Qe (Q1 (Q0 (Qc (z7 J (by omega) (z0 J (zz ?_)))))))
     exact ⟨a.Bodies.length - (i + 1),by omega,(fun i : Nat => (⟨_,[(2,.o (.c (.ptr 0 0))),(3,.o (.c (.ptr 1 0))),(5,.o (.c (.ref 2))),(59,I (els a.Bodies).length),(60,I i)],[.box ((Enc.e a).map (V1.rd [])),.box ((Enc.e b).map (V1.rd [])),.row 1 (els (dB a b i))]⟩ : St)) (i + 1),⟨i + 1,by omega,trivial,J⟩,Xu [0,1,2] (by decide) J (row3p (X8 (Yb _ (by rw [bo_is h3 h5,hb6])))) (.c J (.c J (.c J (.c J (.c J (.nil))))))⟩
    ·have hb6 : decide (bodyInts a.Bodies[i] ≠ bodyInts b.Bodies[i]) = false := decide_eq_false h6
     refine Qh (Q0 (Qd (Qk (zy (z0 J (z1 J (zz (Qd (Xh u8_18 u8_21 u8_22 J ?_)))))))));refine DR.s (Qa J J J) J J (DR.s (Qf J J J J (by decide)) J J (DR.s (Qg J J J J J) J J (DR.s (Y2 J J J) J J (DR.s (Yz J J J J (by assumption)) J J (DR.s (Qa J J J) J J (DR.s (Qt.yes J J J (Qf J J J J (by decide))) J J (DR.s (Qt.yes J J J (Qg J J J J J)) J J (DR.s (Qt.yes J J J (Qa J J J)) J J (DR.s (Qt.yes J J J (Q2 J J J J (by omega) (by assumption) J)) J J (DR.s (Qt.yes J J J (q_lrN J J J J J)) J J (DR.s (Qt.yes J J J (Qf J J J J (by decide))) J J ?_)))))))))));refine DR.s (Qt.yes J J J (Qg J J J J J)) J J (DR.s (Qt.yes J J J (Qa J J J)) J J (DR.s (Qt.yes J J J (Q2 J J J J (by omega) (by assumption) J)) J J (DR.s (Qt.yes J J J (q_lrN J J J J J)) J J ?_)));refine DR.s (Qt.yes J J J (q_aneq (ps := []) (qs := []) (xs := bodyInts a.Bodies[i]) (ys := bodyInts b.Bodies[i]) J J J J J J J J hb6)) J J ?_;refine DR.s (Qn J J J J) J J (DR.stop (by kernel_rfl) (by kernel_rfl) (zz (Ql J (Qh (Q1 (Q0 (Qc (z7 J (by omega) (z0 J (Qe ?_))))))))));refine Q0 ?_
     exact ⟨a.Bodies.length - (i + 1),by omega,(fun i : Nat => (⟨_,[(2,.o (.c (.ptr 0 0))),(3,.o (.c (.ptr 1 0))),(5,.o (.c (.ref 2))),(59,I (els a.Bodies).length),(60,I i)],[.box ((Enc.e a).map (V1.rd [])),.box ((Enc.e b).map (V1.rd [])),.row 1 (els (dB a b i))]⟩ : St)) (i + 1),⟨i + 1,by omega,trivial,J⟩,Xu [0,1,2] (by decide) J (row3p (congrArg els (filt_no _ (by rw [bo_is h3 h5,hb6])))) (.c J (.c J (.c J (.c J (.c J (.nil))))))⟩
  have h3 : ¬ i < a.Bodies.length := by have := of_decide_eq_false h; omega
  have hk2 : i = a.Bodies.length := by omega
  rw [hk2]
  refine Q9 (T_x (T_x (Xj (Q0 (Qd (zy (z2 J J J (z3 J (zx (Y2 J J J) J (z1 J ?_))))))))));refine zz (Qk ?_)
  refine Xi (fun m__ st => ∃ (j : Nat),b.Scores.length - a.Scores.length - j = m__ ∧ (j ≤ b.Scores.length - a.Scores.length) ∧ st = (⟨_,[(2,.o (.c (.ptr 0 0))),(3,.o (.c (.ptr 1 0))),(5,.o (.c (.ref 2))),(8,I ((a.Scores.length + j : Nat) : Int))],[.box ((Enc.e a).map (V1.rd [])),.box ((Enc.e b).map (V1.rd [])),.row 1 (els (dC a b j))]⟩ : St)) _ ⟨(fun (j : Nat) => (⟨_,[(2,.o (.c (.ptr 0 0))),(3,.o (.c (.ptr 1 0))),(5,.o (.c (.ref 2))),(8,I ((a.Scores.length + j : Nat) : Int))],[.box ((Enc.e a).map (V1.rd [])),.box ((Enc.e b).map (V1.rd [])),.row 1 (els (dC a b j))]⟩ : St)) (0),⟨0,J,Nat.zero_le _,J⟩,Xu [0,1,2] (by decide) J (row3p (by rw [dC]; simp)) (.c J (.c J (.c J (.cons (Xo (by omega)) (.nil)))))⟩ ?_
  rintro m_C _ ⟨j,hk_C,hp_C,rfl⟩
  have hdl := dC_len a b j
  have hel := X7 (dC a b j)
  refine Qd (zy (z0 J (z2 J J J (z3 J (zx (Y2 J J J) J (zx (Y7 J J J J) J (zz ?_)))))))
  refine Xb J (fun h => ?_) (fun h => ?_)
  ·have h3 : a.Scores.length + j < b.Scores.length := by have := of_decide_eq_true h; omega
   have hf := Xm (a.Scores.length + j) (by omega)
   have hfs := Yd (a.Scores.length + j)
   refine Qh (Q0 (Qd (Qk (Qc (z0 J (z0 J ?_))))));refine zx (Qj J J (hf) J) J ?_
   refine M0 (q_cat J J J J (by simp only [Xz,X4,List.length_cons,List.length_nil,List.length_append]; omega)) J J ?_
   refine M1 (Yt J J J J J J) J J ?_;refine Xp J J J J J J J J J J (by omega) (by omega) ?_;refine z1 J (Qe (Q1 (Q0 (Qc (z0 J (z7 J (by omega) (z1 J (zz ?_))))))))
   refine ⟨_,(by omega),(fun (j : Nat) => (⟨_,[(2,.o (.c (.ptr 0 0))),(3,.o (.c (.ptr 1 0))),(5,.o (.c (.ref 2))),(8,I ((a.Scores.length + j : Nat) : Int))],[.box ((Enc.e a).map (V1.rd [])),.box ((Enc.e b).map (V1.rd [])),.row 1 (els (dC a b j))]⟩ : St)) (j + 1),⟨j + 1,J,by omega,J⟩,Xu [0,1,2] (by decide) J (row3p (X8 (rng_snoc _))) (.c J (.c J (.c J (.cons (Xo (by omega)) (.nil)))))⟩
  have h3 : ¬ a.Scores.length + j < b.Scores.length := by have := of_decide_eq_false h; omega
  have hk3 : j = b.Scores.length - a.Scores.length := by omega
  rw [hk3]
  refine Q9 (T_x (T_x (Xj (Q0 (Qd (zy (z2 J J J (z3 J (zx (Y2 J J J) J (z1 J ?_))))))))));refine zz (Qk ?_)
  refine Xi (fun m__ st => ∃ (q : Nat),b.Bodies.length - a.Bodies.length - q = m__ ∧ (q ≤ b.Bodies.length - a.Bodies.length) ∧ st = (⟨_,[(2,.o (.c (.ptr 0 0))),(3,.o (.c (.ptr 1 0))),(5,.o (.c (.ref 2))),(9,I ((a.Bodies.length + q : Nat) : Int))],[.box ((Enc.e a).map (V1.rd [])),.box ((Enc.e b).map (V1.rd [])),.row 1 (els (dD a b q))]⟩ : St)) _ ⟨(fun (q : Nat) => (⟨_,[(2,.o (.c (.ptr 0 0))),(3,.o (.c (.ptr 1 0))),(5,.o (.c (.ref 2))),(9,I ((a.Bodies.length + q : Nat) : Int))],[.box ((Enc.e a).map (V1.rd [])),.box ((Enc.e b).map (V1.rd [])),.row 1 (els (dD a b q))]⟩ : St)) (0),⟨0,J,Nat.zero_le _,J⟩,Xu [0,1,2] (by decide) J (row3p (by rw [dD]; simp)) (.c J (.c J (.c J (.cons (Xo (by omega)) (.nil)))))⟩ ?_
  rintro m_D _ ⟨q,hk_D,hp_D,rfl⟩
  have hdl := dD_len a b q
  have hel := X7 (dD a b q)
  refine Qd (zy (z0 J (z2 J J J (z3 J (zx (Y2 J J J) J (zx (Y7 J J J J) J (zz ?_)))))))
  refine Xb J (fun h => ?_) (fun h => ?_)
  ·have h3 : a.Bodies.length + q < b.Bodies.length := by have := of_decide_eq_true h; omega
   have hf := Xm (a.Bodies.length + q) (by omega)
   have hfs := Yd (a.Bodies.length + q)
   refine Qh (Q0 (Qd (Qk (Qc (z0 J (z0 J ?_))))));refine zx (Qj J J (hf) J) J ?_
   refine M0 (q_cat J J J J (by simp only [Xz,X4,List.length_cons,List.length_nil,List.length_append]; omega)) J J ?_
   refine M1 (Yt J J J J J J) J J ?_;refine Xp J J J J J J J J J J (by omega) (by omega) ?_;refine z1 J (Qe (Q1 (Q0 (Qc (z0 J (z7 J (by omega) (z1 J (zz ?_))))))))
   refine ⟨_,(by omega),(fun (q : Nat) => (⟨_,[(2,.o (.c (.ptr 0 0))),(3,.o (.c (.ptr 1 0))),(5,.o (.c (.ref 2))),(9,I ((a.Bodies.length + q : Nat) : Int))],[.box ((Enc.e a).map (V1.rd [])),.box ((Enc.e b).map (V1.rd [])),.row 1 (els (dD a b q))]⟩ : St)) (q + 1),⟨q + 1,J,by omega,J⟩,Xu [0,1,2] (by decide) J (row3p (X8 (rng_snoc _))) (.c J (.c J (.c J (.cons (Xo (by omega)) (.nil)))))⟩
  have h3 : ¬ a.Bodies.length + q < b.Bodies.length := by have := of_decide_eq_false h; omega
  have hk4 : q = b.Bodies.length - a.Bodies.length := by omega
  rw [hk4]
  refine Q9 (T_x (T_x (Xj (Q0 (zy (z0 J (z1 J (zz (Xa ?_)))))))));refine F_r ?_
  exact Xl J J (Xs [2] (by decide) J J J)
end
end Go.Proofs.YtcjclaoogdblbaaDoor
