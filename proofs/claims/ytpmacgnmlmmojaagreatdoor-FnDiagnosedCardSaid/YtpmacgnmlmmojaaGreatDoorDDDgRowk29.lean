/-
  Parts of the proof (rules, data, and what functions of the program and of the reference return), among them: Blame: of three lists of which the first and the third are one, the second is the only other one; The laws' comparison of lists of texts (sameTexts).
  Conditions: those that each theorem names.
-/
import Derived.ChangeKeysEq
import Derived.Test.YtpmacgnmlmmojaaGreatDoorDDDgRowk13
import Derived.Test.YtpmacgnmlmmojaaGreatDoorDDDgRowk20
import Derived.Test.YtpmacgnmlmmojaaGreatDoorDDDgRowk25
import Derived.Test.YtpmacgnmlmmojaaGreatDoorDDDgRowk26
import Derived.Test.YtpmacgnmlmmojaaGreatDoorDDDgRowk28
set_option linter.unusedSimpArgs false
set_option linter.unusedVariables false
set_option maxRecDepth 8000
set_option maxHeartbeats 8000000
namespace Go.Proofs.YtpmacgnmlmmojaaGreatDoor
section
open Go.RowKit

class TyInts (P : Program) (t : TypeId) (n : outParam Nat) : Prop where
 u : P.underlying t = some (.struct (P.fieldsOf t))
 held : P.stoodInHeld t = false
 guard : P.eqGuardType P.depth t = false
 fs : ((P.fieldsOf t).toList.map fun f => (f.name == "_", f.offset, (match P.underlying f.type with | some (.int .i64) => true | _ => false), P.cellsOf f.type)) = (List.range n).map fun i => (false, i, true, 1)
theorem eqInts {P : Program} {w : World} (d : Nat) (xs ys : List Int) (hl : xs.length = ys.length) : ∀ (fs : List Field) (o : Nat), (fs.map fun f => (f.name == "_", f.offset, (match P.underlying f.type with | some (.int .i64) => true | _ => false), P.cellsOf f.type)) = ((List.range xs.length).drop o).map (fun i => (false, i, true, 1)) →
  (Op.eqFields (d + 1) (xs.map (Value.int .i64)).toArray (ys.map (Value.int .i64)).toArray fs).run P w = .ok (decide (xs.drop o = ys.drop o)) w
 | [],o,h => by
  have h1 : ((List.range xs.length).drop o) = [] := by simpa using h.symm
  have h2 : xs.length ≤ o := by simpa using h1
  rw [List.drop_eq_nil_of_le h2,List.drop_eq_nil_of_le (by omega)]
  simp [Op.eqFields]
 | f :: fs,o,h => by
  by_cases ho : o < xs.length
  ·rw [List.drop_eq_getElem_cons (by simpa using ho)] at h
   simp only [List.map_cons,List.cons.injEq,List.getElem_range,Prod.mk.injEq] at h
   obtain ⟨⟨h1,h2,h3,h4⟩,h5⟩ := h
   have hu : P.underlying f.type = some (.int .i64) := by
    split at h3
    ·assumption
    ·cases h3
   have ih := eqInts (w := w) d xs ys hl fs (o + 1) h5
   have hn : f.name ≠ "_" := by simpa using h1
   have hk : P.plainKey f.type = true := by simp [Program.plainKey,hu]
   have p1 : (Go.part f.type (xs.map (Value.int .i64)).toArray f.offset).run P w = .ok (.int .i64 xs[o]) w := run_part_plain w hk (by rw [h2]; simp [ho])
   have p2 : (Go.part f.type (ys.map (Value.int .i64)).toArray f.offset).run P w = .ok (.int .i64 (ys[o]'(by omega))) w := run_part_plain w hk (by rw [h2]; simp [show o < ys.length by omega])
   simp only [Op.eqFields,if_pos hn,Sem.run_bind,p1,p2,Result.andThen_ok,run_equalIn_int w d f.type .i64 .i64 _ _ hu]
   have dx : xs.drop o = xs[o] :: xs.drop (o + 1) := List.drop_eq_getElem_cons ho
   have dy : ys.drop o = ys[o]'(by omega) :: ys.drop (o + 1) := List.drop_eq_getElem_cons (by omega)
   have hd : decide (xs.drop o = ys.drop o) = (decide (xs[o] = ys[o]'(by omega)) && decide (xs.drop (o + 1) = ys.drop (o + 1))) := by
    rw [dx,dy,← Bool.decide_and]
    exact decide_eq_decide.2 (by rw [List.cons.injEq])
   rw [hd]
   by_cases e : xs[o] = ys[o]'(by omega)
   ·rw [decide_eq_true e,Bool.true_and]
    simp [e,ih]
   ·rw [decide_eq_false e,Bool.false_and]
    have e2 : (xs[o] == ys[o]'(by omega)) = false := by simp [e]
    simp [e2]
  ·rw [List.drop_eq_nil_of_le (by simp; omega)] at h
   simp at h
theorem ag_ints {w : World} {H : Hs} {F : Nat → Prop} {ps : List Nat} {cs : List V1} {xs : List Int} {v : Value} (hc : cs = xs.map fun n => V1.rd ps (.v (.int .i64 n))) (h : R2 w H F (.ag cs) v) : v = .agg (xs.map (Value.int .i64)).toArray := by
 obtain ⟨us,rfl,hl,hu⟩ := h
 subst hc
 rw [List.length_map] at hl
 congr 2
 apply List.ext_getElem
 ·simp [hl]
 ·intro i h1 h2
  have h3 := hu i (V1.rd ps (.v (.int .i64 (xs[i]'(by omega))))) us[i] (by simp [show i < xs.length by omega]) (by simp [h1])
  have h4 : RO w (inP H F ps) (.v (.int .i64 (xs[i]'(by omega)))) us[i] := h3
  rw [(RO.plain h4).1]
  simp
section
variable {P : Program} {ops : Array Oper} {o : Oper} {st : St} {m n : Nat} {t t' : TypeId} {y z : Operand} {ps qs : List Nat} {cs ds : List V1} {xs ys : List Int} {b : Bool}
theorem q_aneq [hi : TyInts P t n] (ho : o.op = .binOp .neq t y z t') (hg : o.guard = none) (hy : st.ev y = .o (.ag cs)) (hz : st.ev z = .o (.ag ds)) (hc : cs = xs.map fun n => V1.rd ps (.v (.int .i64 n))) (hd : ds = ys.map fun n => V1.rd qs (.v (.int .i64 n))) (h1 : xs.length = n) (h2 : ys.length = n) (hb : decide (xs ≠ ys) = b) : Qt P ops o st (B b) [] m :=
 .pure hg fun a w H F hr => ⟨.bool b,by
  have e1 := ag_ints (w := w) (H := H) (F := F) hc (by have := hr.ev y; rw [hy] at this; exact this)
  have e2 := ag_ints (w := w) (H := H) (F := F) hd (by have := hr.ev z; rw [hz] at this; exact this)
  have hq := eqInts (P := P) (w := w) 9998 xs ys (by omega) (P.fieldsOf t).toList 0 (by rw [hi.fs,h1]; rfl)
  have hf := run_equalIn_struct (P := P) w 9999 t (xs.map (Value.int .i64)).toArray (ys.map (Value.int .i64)).toArray hi.u hi.held
  rw [hq] at hf
  have hb2 : (!decide (xs = ys)) = b := by rw [← hb]; simp
  simp only [execOp,ho,e1,e2,Sem.run_bind,run_eqGuard_agg w .neq t y z _ _ hi.guard,Result.andThen_ok,run_neq_struct,hf,List.drop_zero,hb2]
  rfl,plainV _ rfl⟩
end
instance : TyInts Tryz.prog 168 9 := ⟨by kernel_rfl,by kernel_rfl,by kernel_rfl,by kernel_rfl⟩
end
section
open Go.RowKit

theorem row3p {k : Nat} {o o2 : Ob} {a b : List (List T)} (h : a = b) : [o,o2,Ob.row k a] = [o,o2,Ob.row k b] := by rw [h]
theorem Yp {l l' : List ByteArray} {x : ByteArray} (h : l' = l ++ [x]) : els l' = els l ++ [Enc.e x] := by rw [h]; simp [els]
theorem differ_no {a b : TWorld} (h : ¬ (worldOk a = true ∧ worldOk b = true)) : differ a b = [] := if_neg h
theorem differ_ok {a b : TWorld} (h : worldOk a = true) (h2 : worldOk b = true) : differ a b = dD a b (b.Bodies.length - a.Bodies.length) := if_pos ⟨h,h2⟩
theorem sc_T {a b : TWorld} {k : Nat} (h : b.Scores.length ≤ k) : scDiff a b k = true := by rw [scDiff,decide_eq_true h]; rfl
theorem sc_is {a b : TWorld} {k : Nat} (h1 : k < a.Scores.length) (h2 : k < b.Scores.length) : scDiff a b k = decide (a.Scores[k] ≠ b.Scores[k]) := by
 rw [scDiff,decide_eq_false (by omega),Bool.false_or]
 simp [List.getD_eq_getElem?_getD,h1,h2]
theorem bo_T {a b : TWorld} {k : Nat} (h : b.Bodies.length ≤ k) : boDiff a b k = true := by rw [boDiff,decide_eq_true h]; rfl
theorem bo_is {a b : TWorld} {k : Nat} (h1 : k < a.Bodies.length) (h2 : k < b.Bodies.length) : boDiff a b k = decide (bodyInts a.Bodies[k] ≠ bodyInts b.Bodies[k]) := by
 rw [boDiff,decide_eq_false (by omega),Bool.false_or]
 simp [List.getD_eq_getElem?_getD,h1,h2]
theorem dS_len (a b : TWorld) (n : Nat) : (dS a b n).length ≤ 1 + n := by
 have h1 : (dSeed a b).length ≤ 1 := by unfold dSeed; split <;> simp
 have h2 := List.length_filter_le (scDiff a b) (List.range n)
 simp only [dS,List.length_append,List.length_map]
 simp only [List.length_range] at h2
 omega
theorem dB_len (a b : TWorld) (n : Nat) : (dB a b n).length ≤ 1 + a.Scores.length + n := by
 have h1 := dS_len a b a.Scores.length
 have h2 := List.length_filter_le (boDiff a b) (List.range n)
 simp only [dB,List.length_append,List.length_map]
 simp only [List.length_range] at h2
 omega
theorem dC_len (a b : TWorld) (n : Nat) : (dC a b n).length ≤ 1 + a.Scores.length + a.Bodies.length + n := by
 have h1 := dB_len a b a.Bodies.length
 simp only [dC,List.length_append,List.length_map,List.length_range']
 omega
theorem dD_len (a b : TWorld) (n : Nat) : (dD a b n).length ≤ 1 + a.Scores.length + a.Bodies.length + b.Scores.length + n := by
 have h1 := dC_len a b (b.Scores.length - a.Scores.length)
 simp only [dD,List.length_append,List.length_map,List.length_range']
 omega
theorem I_DifferOf (a b : TWorld) (ga : Enc.gd a) (gb : Enc.gd b) : Con Tryz.prog 56 [] [ag a,ag b] [.row 1 (els (differ a b))] (.o (.c (.ref 0))) := by
 have hca := Xv a ga
 have hcb := Xv b gb
 cases hoa : worldOk a with
 | false =>
  rw [hoa] at hca
  rw [differ_no (by simp [hoa])]
  refine Con.of Tryz.func56 J Tryz.ntmps56 J (fun E => ?_)
  refine Wz [26,79,22,15] ?_;refine zx (Qj J J (hca) J) J ?_;refine Wz [14,44,84,24,9,55] ?_
  exact Xn J J (W_fill [1] [2] J J (by decide) J J J)
 | true =>
 rw [hoa] at hca
 cases hob : worldOk b with
 | false =>
  rw [hob] at hcb
  rw [differ_no (by simp [hob])]
  refine Con.of Tryz.func56 J Tryz.ntmps56 J (fun E => ?_)
  refine Wz [26,79,22,15] ?_;refine zx (Qj J J (hca) J) J ?_;refine Wz [14,30,27,6] ?_;refine zx (Qj J J (hcb) J) J ?_;refine Wz [6,14,8,9,55] ?_
  exact Xn J J (W_fill [1] [2] J J (by decide) J J J)
 | true =>
 rw [hob] at hcb
 rw [differ_ok hoa hob]
 obtain ⟨_,_,_,hn,_,hm,_⟩ := Kh hoa
 obtain ⟨_,_,_,hn2,_,hm2,_⟩ := Kh hob
 have hlsa := Ym a.Scores
 have hlba := Ym a.Bodies
 have hlsb := Ym b.Scores
 have hlbb := Ym b.Bodies
 refine Con.of Tryz.func56 J Tryz.ntmps56 J (fun E => ?_)
 refine Wz [26,79,22,15] ?_;refine zx (Qj J J (hca) J) J ?_;refine Wz [14,30,27,6] ?_;refine zx (Qj J J (hcb) J) J ?_;refine Wz [6,14,8,35,11,20,5,17,114,1] ?_
 refine AWP.pre ?_ (W_nil 5 1 J)
 refine Xb J (fun h => ?_) (fun h => ?_)
 ·have hse := of_decide_eq_true h
  have hds : dSeed a b = _ := if_pos hse
  refine Wz [49,54] ?_;refine X0 J J J J J J J J J J (by decide) (by decide) ?_;refine Wz [22,5,12,78,13] ?_
  refine Xi (fun m st => ∃ k : Nat,k + m = a.Scores.length ∧ (True) ∧ st = (⟨_,[(2,.o (.c (.ptr 0 0))),(3,.o (.c (.ptr 1 0))),(5,.o (.c (.ref 2))),(28,I (els a.Scores).length),(29,I k)],[.box ((Enc.e a).map (V1.rd [])),.box ((Enc.e b).map (V1.rd [])),.row 1 (els (dS a b k))]⟩ : St)) (a.Scores.length) ⟨(fun k : Nat => (⟨_,[(2,.o (.c (.ptr 0 0))),(3,.o (.c (.ptr 1 0))),(5,.o (.c (.ref 2))),(28,I (els a.Scores).length),(29,I k)],[.box ((Enc.e a).map (V1.rd [])),.box ((Enc.e b).map (V1.rd [])),.row 1 (els (dS a b k))]⟩ : St)) 0,⟨0,by omega,trivial,J⟩,X8 [0,1,2] (by decide) J (row3p (by rw [dS,hds]; rfl)) (.c J (.c J (.c J (.c J (.c J (.nil))))))⟩ ?_
  rintro m_A _ ⟨k,hk_A,hp_A,rfl⟩
  have hdl := dS_len a b k
  have hel := Ym (dS a b k)
  refine Wz [4,48,21] ?_
  refine Xb J (fun h => ?_) (fun h => ?_)
  ·have h3 : k < a.Scores.length := by have := of_decide_eq_true h; omega
   have hat := Yl h3
   have hf := Xp k (by omega)
   have hfs := Yv k
   by_cases h4 : b.Scores.length ≤ k
   ·have hb4 : decide (((els b.Scores).length : Int) ≤ k) = true := decide_eq_true (by omega)
    refine Wz [52,22] ?_;refine Xh u8_41 u8_42 u8_43 J ?_;refine Wz [3,33,123,132,3,58,58,145,131,65,31,9,49,0] ?_;refine zx (Qj J J (hf) J) J ?_
    refine M0 (q_cat J J J J (by simp only [Yg,Yj,List.length_cons,List.length_nil,List.length_append]; omega)) J J ?_
    refine Wz [54,87,51,38] ?_
    exact ⟨a.Scores.length - (k + 1),by omega,(fun k : Nat => (⟨_,[(2,.o (.c (.ptr 0 0))),(3,.o (.c (.ptr 1 0))),(5,.o (.c (.ref 2))),(28,I (els a.Scores).length),(29,I k)],[.box ((Enc.e a).map (V1.rd [])),.box ((Enc.e b).map (V1.rd [])),.row 1 (els (dS a b k))]⟩ : St)) (k + 1),⟨k + 1,by omega,trivial,J⟩,X8 [0,1,2] (by decide) J (row3p (Yp (Yt _ (sc_T h4)))) (.c J (.c J (.c J (.c J (.c J (.nil))))))⟩
   ·have hb4 : decide (((els b.Scores).length : Int) ≤ k) = false := decide_eq_false (by omega)
    have h5 : k < b.Scores.length := by omega
    have hat2 := Yl h5
    by_cases h6 : a.Scores[k] ≠ b.Scores[k]
    ·have hb6 : decide (a.Scores[k] ≠ b.Scores[k]) = true := decide_eq_true h6
     refine Wz [52,22] ?_;refine Xh u8_41 u8_42 u8_43 J ?_;refine Wz [3,33,123,132,3,23,66,103,127,23,66,103,127] ?_;refine DR.s (Qt.yes J J J (Qw J J J J (by assumption))) J J ?_;refine Wz [59,31,9,49,0] ?_;refine zx (Qj J J (hf) J) J ?_
     refine M0 (q_cat J J J J (by simp only [Yg,Yj,List.length_cons,List.length_nil,List.length_append]; omega)) J J ?_
     refine Wz [54,87,51,38] ?_
     exact ⟨a.Scores.length - (k + 1),by omega,(fun k : Nat => (⟨_,[(2,.o (.c (.ptr 0 0))),(3,.o (.c (.ptr 1 0))),(5,.o (.c (.ref 2))),(28,I (els a.Scores).length),(29,I k)],[.box ((Enc.e a).map (V1.rd [])),.box ((Enc.e b).map (V1.rd [])),.row 1 (els (dS a b k))]⟩ : St)) (k + 1),⟨k + 1,by omega,trivial,J⟩,X8 [0,1,2] (by decide) J (row3p (Yp (Yt _ (by rw [sc_is h3 h5,hb6])))) (.c J (.c J (.c J (.c J (.c J (.nil))))))⟩
    ·have hb6 : decide (a.Scores[k] ≠ b.Scores[k]) = false := decide_eq_false h6
     refine Wz [52,22] ?_;refine Xh u8_41 u8_42 u8_43 J ?_;refine Wz [3,33,123,132,3,23,66,103,127,23,66,103,127] ?_;refine DR.s (Qt.yes J J J (Qw J J J J (by assumption))) J J ?_;refine Wz [59,31,45,38] ?_
     exact ⟨a.Scores.length - (k + 1),by omega,(fun k : Nat => (⟨_,[(2,.o (.c (.ptr 0 0))),(3,.o (.c (.ptr 1 0))),(5,.o (.c (.ref 2))),(28,I (els a.Scores).length),(29,I k)],[.box ((Enc.e a).map (V1.rd [])),.box ((Enc.e b).map (V1.rd [])),.row 1 (els (dS a b k))]⟩ : St)) (k + 1),⟨k + 1,by omega,trivial,J⟩,X8 [0,1,2] (by decide) J (row3p (congrArg els (filt_no _ (by rw [sc_is h3 h5,hb6])))) (.c J (.c J (.c J (.c J (.c J (.nil))))))⟩
  have h3 : ¬ k < a.Scores.length := by have := of_decide_eq_false h; omega
  have hk : k = a.Scores.length := by omega
  rw [hk]
  refine Wz [32,20,5,12,78,13] ?_
  refine Xi (fun m st => ∃ i : Nat,i + m = a.Bodies.length ∧ (True) ∧ st = (⟨_,[(2,.o (.c (.ptr 0 0))),(3,.o (.c (.ptr 1 0))),(5,.o (.c (.ref 2))),(59,I (els a.Bodies).length),(60,I i)],[.box ((Enc.e a).map (V1.rd [])),.box ((Enc.e b).map (V1.rd [])),.row 1 (els (dB a b i))]⟩ : St)) (a.Bodies.length) ⟨(fun i : Nat => (⟨_,[(2,.o (.c (.ptr 0 0))),(3,.o (.c (.ptr 1 0))),(5,.o (.c (.ref 2))),(59,I (els a.Bodies).length),(60,I i)],[.box ((Enc.e a).map (V1.rd [])),.box ((Enc.e b).map (V1.rd [])),.row 1 (els (dB a b i))]⟩ : St)) 0,⟨0,by omega,trivial,J⟩,X8 [0,1,2] (by decide) J (row3p (by rw [dB]; simp)) (.c J (.c J (.c J (.c J (.c J (.nil))))))⟩ ?_
  rintro m_B _ ⟨i,hk_B,hp_B,rfl⟩
  have hdl := dB_len a b i
  have hel := Ym (dB a b i)
  refine Wz [4,48,21] ?_
  refine Xb J (fun h => ?_) (fun h => ?_)
  ·have h3 : i < a.Bodies.length := by have := of_decide_eq_true h; omega
   have hat := Yl h3
   have hf := Xp i (by omega)
   have hfs := Yv i
   by_cases h4 : b.Bodies.length ≤ i
   ·have hb4 : decide (((els b.Bodies).length : Int) ≤ i) = true := decide_eq_true (by omega)
    refine Wz [52,22] ?_;refine Xh u8_41 u8_44 u8_45 J ?_;refine Wz [3,33,123,132,3,58,58,145,131,65,31,9,49,0] ?_;refine zx (Qj J J (hf) J) J ?_
    refine M0 (q_cat J J J J (by simp only [Yg,Yj,List.length_cons,List.length_nil,List.length_append]; omega)) J J ?_
    refine Wz [54,87,51,38] ?_
    exact ⟨a.Bodies.length - (i + 1),by omega,(fun i : Nat => (⟨_,[(2,.o (.c (.ptr 0 0))),(3,.o (.c (.ptr 1 0))),(5,.o (.c (.ref 2))),(59,I (els a.Bodies).length),(60,I i)],[.box ((Enc.e a).map (V1.rd [])),.box ((Enc.e b).map (V1.rd [])),.row 1 (els (dB a b i))]⟩ : St)) (i + 1),⟨i + 1,by omega,trivial,J⟩,X8 [0,1,2] (by decide) J (row3p (Yp (Yt _ (bo_T h4)))) (.c J (.c J (.c J (.c J (.c J (.nil))))))⟩
   ·have hb4 : decide (((els b.Bodies).length : Int) ≤ i) = false := decide_eq_false (by omega)
    have h5 : i < b.Bodies.length := by omega
    have hat2 := Yl h5
    by_cases h6 : bodyInts a.Bodies[i] ≠ bodyInts b.Bodies[i]
    ·have hb6 : decide (bodyInts a.Bodies[i] ≠ bodyInts b.Bodies[i]) = true := decide_eq_true h6
     refine Wz [52,22] ?_;refine Xh u8_41 u8_44 u8_45 J ?_;refine Wz [3,33,123,132,3,23,66,103,158,23,66,103,158] ?_;refine DR.s (Qt.yes J J J (q_aneq (ps := []) (qs := []) (xs := bodyInts a.Bodies[i]) (ys := bodyInts b.Bodies[i]) J J J J J J J J hb6)) J J ?_;refine Wz [59,31,9,49,0] ?_;refine zx (Qj J J (hf) J) J ?_
     refine M0 (q_cat J J J J (by simp only [Yg,Yj,List.length_cons,List.length_nil,List.length_append]; omega)) J J ?_
     refine Wz [54,87,51,38] ?_
     exact ⟨a.Bodies.length - (i + 1),by omega,(fun i : Nat => (⟨_,[(2,.o (.c (.ptr 0 0))),(3,.o (.c (.ptr 1 0))),(5,.o (.c (.ref 2))),(59,I (els a.Bodies).length),(60,I i)],[.box ((Enc.e a).map (V1.rd [])),.box ((Enc.e b).map (V1.rd [])),.row 1 (els (dB a b i))]⟩ : St)) (i + 1),⟨i + 1,by omega,trivial,J⟩,X8 [0,1,2] (by decide) J (row3p (Yp (Yt _ (by rw [bo_is h3 h5,hb6])))) (.c J (.c J (.c J (.c J (.c J (.nil))))))⟩
    ·have hb6 : decide (bodyInts a.Bodies[i] ≠ bodyInts b.Bodies[i]) = false := decide_eq_false h6
     refine Wz [52,22] ?_;refine Xh u8_41 u8_44 u8_45 J ?_;refine Wz [3,33,123,132,3,23,66,103,158,23,66,103,158] ?_;refine DR.s (Qt.yes J J J (q_aneq (ps := []) (qs := []) (xs := bodyInts a.Bodies[i]) (ys := bodyInts b.Bodies[i]) J J J J J J J J hb6)) J J ?_;refine Wz [59,31,45,38] ?_
     exact ⟨a.Bodies.length - (i + 1),by omega,(fun i : Nat => (⟨_,[(2,.o (.c (.ptr 0 0))),(3,.o (.c (.ptr 1 0))),(5,.o (.c (.ref 2))),(59,I (els a.Bodies).length),(60,I i)],[.box ((Enc.e a).map (V1.rd [])),.box ((Enc.e b).map (V1.rd [])),.row 1 (els (dB a b i))]⟩ : St)) (i + 1),⟨i + 1,by omega,trivial,J⟩,X8 [0,1,2] (by decide) J (row3p (congrArg els (filt_no _ (by rw [bo_is h3 h5,hb6])))) (.c J (.c J (.c J (.c J (.c J (.nil))))))⟩
  have h3 : ¬ i < a.Bodies.length := by have := of_decide_eq_false h; omega
  have hk2 : i = a.Bodies.length := by omega
  rw [hk2]
  refine Wz [32,20,5,12,2,13] ?_
  refine Xi (fun m__ st => ∃ (j : Nat),b.Scores.length - a.Scores.length - j = m__ ∧ (j ≤ b.Scores.length - a.Scores.length) ∧ st = (⟨_,[(2,.o (.c (.ptr 0 0))),(3,.o (.c (.ptr 1 0))),(5,.o (.c (.ref 2))),(8,I ((a.Scores.length + j : Nat) : Int))],[.box ((Enc.e a).map (V1.rd [])),.box ((Enc.e b).map (V1.rd [])),.row 1 (els (dC a b j))]⟩ : St)) _ ⟨(fun (j : Nat) => (⟨_,[(2,.o (.c (.ptr 0 0))),(3,.o (.c (.ptr 1 0))),(5,.o (.c (.ref 2))),(8,I ((a.Scores.length + j : Nat) : Int))],[.box ((Enc.e a).map (V1.rd [])),.box ((Enc.e b).map (V1.rd [])),.row 1 (els (dC a b j))]⟩ : St)) (0),⟨0,J,Nat.zero_le _,J⟩,X8 [0,1,2] (by decide) J (row3p (by rw [dC]; simp)) (.c J (.c J (.c J (.cons (Xy (by omega)) (.nil)))))⟩ ?_
  rintro m_C _ ⟨j,hk_C,hp_C,rfl⟩
  have hdl := dC_len a b j
  have hel := Ym (dC a b j)
  refine Wz [28,17,12,48,1] ?_
  refine Xb J (fun h => ?_) (fun h => ?_)
  ·have h3 : a.Scores.length + j < b.Scores.length := by have := of_decide_eq_true h; omega
   have hf := Xp (a.Scores.length + j) (by omega)
   have hfs := Yv (a.Scores.length + j)
   refine Wz [29,49,0] ?_;refine zx (Qj J J (hf) J) J ?_
   refine M0 (q_cat J J J J (by simp only [Yg,Yj,List.length_cons,List.length_nil,List.length_append]; omega)) J J ?_
   refine Wz [54,87,51,50] ?_
   refine ⟨_,(by omega),(fun (j : Nat) => (⟨_,[(2,.o (.c (.ptr 0 0))),(3,.o (.c (.ptr 1 0))),(5,.o (.c (.ref 2))),(8,I ((a.Scores.length + j : Nat) : Int))],[.box ((Enc.e a).map (V1.rd [])),.box ((Enc.e b).map (V1.rd [])),.row 1 (els (dC a b j))]⟩ : St)) (j + 1),⟨j + 1,J,by omega,J⟩,X8 [0,1,2] (by decide) J (row3p (Yp (rng_snoc _))) (.c J (.c J (.c J (.cons (Xy (by omega)) (.nil)))))⟩
  have h3 : ¬ a.Scores.length + j < b.Scores.length := by have := of_decide_eq_false h; omega
  have hk3 : j = b.Scores.length - a.Scores.length := by omega
  rw [hk3]
  refine Wz [32,20,5,12,2,13] ?_
  refine Xi (fun m__ st => ∃ (q : Nat),b.Bodies.length - a.Bodies.length - q = m__ ∧ (q ≤ b.Bodies.length - a.Bodies.length) ∧ st = (⟨_,[(2,.o (.c (.ptr 0 0))),(3,.o (.c (.ptr 1 0))),(5,.o (.c (.ref 2))),(9,I ((a.Bodies.length + q : Nat) : Int))],[.box ((Enc.e a).map (V1.rd [])),.box ((Enc.e b).map (V1.rd [])),.row 1 (els (dD a b q))]⟩ : St)) _ ⟨(fun (q : Nat) => (⟨_,[(2,.o (.c (.ptr 0 0))),(3,.o (.c (.ptr 1 0))),(5,.o (.c (.ref 2))),(9,I ((a.Bodies.length + q : Nat) : Int))],[.box ((Enc.e a).map (V1.rd [])),.box ((Enc.e b).map (V1.rd [])),.row 1 (els (dD a b q))]⟩ : St)) (0),⟨0,J,Nat.zero_le _,J⟩,X8 [0,1,2] (by decide) J (row3p (by rw [dD]; simp)) (.c J (.c J (.c J (.cons (Xy (by omega)) (.nil)))))⟩ ?_
  rintro m_D _ ⟨q,hk_D,hp_D,rfl⟩
  have hdl := dD_len a b q
  have hel := Ym (dD a b q)
  refine Wz [28,17,12,48,1] ?_
  refine Xb J (fun h => ?_) (fun h => ?_)
  ·have h3 : a.Bodies.length + q < b.Bodies.length := by have := of_decide_eq_true h; omega
   have hf := Xp (a.Bodies.length + q) (by omega)
   have hfs := Yv (a.Bodies.length + q)
   refine Wz [29,49,0] ?_;refine zx (Qj J J (hf) J) J ?_
   refine M0 (q_cat J J J J (by simp only [Yg,Yj,List.length_cons,List.length_nil,List.length_append]; omega)) J J ?_
   refine Wz [54,87,51,50] ?_
   refine ⟨_,(by omega),(fun (q : Nat) => (⟨_,[(2,.o (.c (.ptr 0 0))),(3,.o (.c (.ptr 1 0))),(5,.o (.c (.ref 2))),(9,I ((a.Bodies.length + q : Nat) : Int))],[.box ((Enc.e a).map (V1.rd [])),.box ((Enc.e b).map (V1.rd [])),.row 1 (els (dD a b q))]⟩ : St)) (q + 1),⟨q + 1,J,by omega,J⟩,X8 [0,1,2] (by decide) J (row3p (Yp (rng_snoc _))) (.c J (.c J (.c J (.cons (Xy (by omega)) (.nil)))))⟩
  have h3 : ¬ a.Bodies.length + q < b.Bodies.length := by have := of_decide_eq_false h; omega
  have hk4 : q = b.Bodies.length - a.Bodies.length := by omega
  rw [hk4]
  refine Wz [32,7,34] ?_
  exact Xn J J (X6 [2] (by decide) J J J)
 ·have hse := of_decide_eq_false h
  have hds : dSeed a b = _ := if_neg hse
  refine Wz [70,5,12,78,13] ?_
  refine Xi (fun m st => ∃ k : Nat,k + m = a.Scores.length ∧ (True) ∧ st = (⟨_,[(2,.o (.c (.ptr 0 0))),(3,.o (.c (.ptr 1 0))),(5,.o (.c (.ref 2))),(28,I (els a.Scores).length),(29,I k)],[.box ((Enc.e a).map (V1.rd [])),.box ((Enc.e b).map (V1.rd [])),.row 1 (els (dS a b k))]⟩ : St)) (a.Scores.length) ⟨(fun k : Nat => (⟨_,[(2,.o (.c (.ptr 0 0))),(3,.o (.c (.ptr 1 0))),(5,.o (.c (.ref 2))),(28,I (els a.Scores).length),(29,I k)],[.box ((Enc.e a).map (V1.rd [])),.box ((Enc.e b).map (V1.rd [])),.row 1 (els (dS a b k))]⟩ : St)) 0,⟨0,by omega,trivial,J⟩,X8 [0,1,2] (by decide) J (row3p (by rw [dS,hds]; rfl)) (.c J (.c J (.c J (.c J (.c J (.nil))))))⟩ ?_
  rintro m_A _ ⟨k,hk_A,hp_A,rfl⟩
  have hdl := dS_len a b k
  have hel := Ym (dS a b k)
  refine Wz [4,48,21] ?_
  refine Xb J (fun h => ?_) (fun h => ?_)
  ·have h3 : k < a.Scores.length := by have := of_decide_eq_true h; omega
   have hat := Yl h3
   have hf := Xp k (by omega)
   have hfs := Yv k
   by_cases h4 : b.Scores.length ≤ k
   ·have hb4 : decide (((els b.Scores).length : Int) ≤ k) = true := decide_eq_true (by omega)
    refine Wz [52,22] ?_;refine Xh u8_41 u8_42 u8_43 J ?_;refine Wz [3,33,123,132,3,58,58,145,131,65,31,9,49,0] ?_;refine zx (Qj J J (hf) J) J ?_
    refine M0 (q_cat J J J J (by simp only [Yg,Yj,List.length_cons,List.length_nil,List.length_append]; omega)) J J ?_
    refine Wz [54,87,51,38] ?_
    exact ⟨a.Scores.length - (k + 1),by omega,(fun k : Nat => (⟨_,[(2,.o (.c (.ptr 0 0))),(3,.o (.c (.ptr 1 0))),(5,.o (.c (.ref 2))),(28,I (els a.Scores).length),(29,I k)],[.box ((Enc.e a).map (V1.rd [])),.box ((Enc.e b).map (V1.rd [])),.row 1 (els (dS a b k))]⟩ : St)) (k + 1),⟨k + 1,by omega,trivial,J⟩,X8 [0,1,2] (by decide) J (row3p (Yp (Yt _ (sc_T h4)))) (.c J (.c J (.c J (.c J (.c J (.nil))))))⟩
   ·have hb4 : decide (((els b.Scores).length : Int) ≤ k) = false := decide_eq_false (by omega)
    have h5 : k < b.Scores.length := by omega
    have hat2 := Yl h5
    by_cases h6 : a.Scores[k] ≠ b.Scores[k]
    ·have hb6 : decide (a.Scores[k] ≠ b.Scores[k]) = true := decide_eq_true h6
     refine Wz [52,22] ?_;refine Xh u8_41 u8_42 u8_43 J ?_;refine Wz [3,33,123,132,3,23,66,103,127,23,66,103,127] ?_;refine DR.s (Qt.yes J J J (Qw J J J J (by assumption))) J J ?_;refine Wz [59,31,9,49,0] ?_;refine zx (Qj J J (hf) J) J ?_
     refine M0 (q_cat J J J J (by simp only [Yg,Yj,List.length_cons,List.length_nil,List.length_append]; omega)) J J ?_
     refine Wz [54,87,51,38] ?_
     exact ⟨a.Scores.length - (k + 1),by omega,(fun k : Nat => (⟨_,[(2,.o (.c (.ptr 0 0))),(3,.o (.c (.ptr 1 0))),(5,.o (.c (.ref 2))),(28,I (els a.Scores).length),(29,I k)],[.box ((Enc.e a).map (V1.rd [])),.box ((Enc.e b).map (V1.rd [])),.row 1 (els (dS a b k))]⟩ : St)) (k + 1),⟨k + 1,by omega,trivial,J⟩,X8 [0,1,2] (by decide) J (row3p (Yp (Yt _ (by rw [sc_is h3 h5,hb6])))) (.c J (.c J (.c J (.c J (.c J (.nil))))))⟩
    ·have hb6 : decide (a.Scores[k] ≠ b.Scores[k]) = false := decide_eq_false h6
     refine Wz [52,22] ?_;refine Xh u8_41 u8_42 u8_43 J ?_;refine Wz [3,33,123,132,3,23,66,103,127,23,66,103,127] ?_;refine DR.s (Qt.yes J J J (Qw J J J J (by assumption))) J J ?_;refine Wz [59,31,45,38] ?_
     exact ⟨a.Scores.length - (k + 1),by omega,(fun k : Nat => (⟨_,[(2,.o (.c (.ptr 0 0))),(3,.o (.c (.ptr 1 0))),(5,.o (.c (.ref 2))),(28,I (els a.Scores).length),(29,I k)],[.box ((Enc.e a).map (V1.rd [])),.box ((Enc.e b).map (V1.rd [])),.row 1 (els (dS a b k))]⟩ : St)) (k + 1),⟨k + 1,by omega,trivial,J⟩,X8 [0,1,2] (by decide) J (row3p (congrArg els (filt_no _ (by rw [sc_is h3 h5,hb6])))) (.c J (.c J (.c J (.c J (.c J (.nil))))))⟩
  have h3 : ¬ k < a.Scores.length := by have := of_decide_eq_false h; omega
  have hk : k = a.Scores.length := by omega
  rw [hk]
  refine Wz [32,20,5,12,78,13] ?_
  refine Xi (fun m st => ∃ i : Nat,i + m = a.Bodies.length ∧ (True) ∧ st = (⟨_,[(2,.o (.c (.ptr 0 0))),(3,.o (.c (.ptr 1 0))),(5,.o (.c (.ref 2))),(59,I (els a.Bodies).length),(60,I i)],[.box ((Enc.e a).map (V1.rd [])),.box ((Enc.e b).map (V1.rd [])),.row 1 (els (dB a b i))]⟩ : St)) (a.Bodies.length) ⟨(fun i : Nat => (⟨_,[(2,.o (.c (.ptr 0 0))),(3,.o (.c (.ptr 1 0))),(5,.o (.c (.ref 2))),(59,I (els a.Bodies).length),(60,I i)],[.box ((Enc.e a).map (V1.rd [])),.box ((Enc.e b).map (V1.rd [])),.row 1 (els (dB a b i))]⟩ : St)) 0,⟨0,by omega,trivial,J⟩,X8 [0,1,2] (by decide) J (row3p (by rw [dB]; simp)) (.c J (.c J (.c J (.c J (.c J (.nil))))))⟩ ?_
  rintro m_B _ ⟨i,hk_B,hp_B,rfl⟩
  have hdl := dB_len a b i
  have hel := Ym (dB a b i)
  refine Wz [4,48,21] ?_
  refine Xb J (fun h => ?_) (fun h => ?_)
  ·have h3 : i < a.Bodies.length := by have := of_decide_eq_true h; omega
   have hat := Yl h3
   have hf := Xp i (by omega)
   have hfs := Yv i
   by_cases h4 : b.Bodies.length ≤ i
   ·have hb4 : decide (((els b.Bodies).length : Int) ≤ i) = true := decide_eq_true (by omega)
    refine Wz [52,22] ?_;refine Xh u8_41 u8_44 u8_45 J ?_;refine Wz [3,33,123,132,3,58,58,145,131,65,31,9,49,0] ?_;refine zx (Qj J J (hf) J) J ?_
    refine M0 (q_cat J J J J (by simp only [Yg,Yj,List.length_cons,List.length_nil,List.length_append]; omega)) J J ?_
    refine Wz [54,87,51,38] ?_
    exact ⟨a.Bodies.length - (i + 1),by omega,(fun i : Nat => (⟨_,[(2,.o (.c (.ptr 0 0))),(3,.o (.c (.ptr 1 0))),(5,.o (.c (.ref 2))),(59,I (els a.Bodies).length),(60,I i)],[.box ((Enc.e a).map (V1.rd [])),.box ((Enc.e b).map (V1.rd [])),.row 1 (els (dB a b i))]⟩ : St)) (i + 1),⟨i + 1,by omega,trivial,J⟩,X8 [0,1,2] (by decide) J (row3p (Yp (Yt _ (bo_T h4)))) (.c J (.c J (.c J (.c J (.c J (.nil))))))⟩
   ·have hb4 : decide (((els b.Bodies).length : Int) ≤ i) = false := decide_eq_false (by omega)
    have h5 : i < b.Bodies.length := by omega
    have hat2 := Yl h5
    by_cases h6 : bodyInts a.Bodies[i] ≠ bodyInts b.Bodies[i]
    ·have hb6 : decide (bodyInts a.Bodies[i] ≠ bodyInts b.Bodies[i]) = true := decide_eq_true h6
     refine Wz [52,22] ?_;refine Xh u8_41 u8_44 u8_45 J ?_;refine Wz [3,33,123,132,3,23,66,103,158,23,66,103,158] ?_;refine DR.s (Qt.yes J J J (q_aneq (ps := []) (qs := []) (xs := bodyInts a.Bodies[i]) (ys := bodyInts b.Bodies[i]) J J J J J J J J hb6)) J J ?_;refine Wz [59,31,9,49,0] ?_;refine zx (Qj J J (hf) J) J ?_
     refine M0 (q_cat J J J J (by simp only [Yg,Yj,List.length_cons,List.length_nil,List.length_append]; omega)) J J ?_
     refine Wz [54,87,51,38] ?_
     exact ⟨a.Bodies.length - (i + 1),by omega,(fun i : Nat => (⟨_,[(2,.o (.c (.ptr 0 0))),(3,.o (.c (.ptr 1 0))),(5,.o (.c (.ref 2))),(59,I (els a.Bodies).length),(60,I i)],[.box ((Enc.e a).map (V1.rd [])),.box ((Enc.e b).map (V1.rd [])),.row 1 (els (dB a b i))]⟩ : St)) (i + 1),⟨i + 1,by omega,trivial,J⟩,X8 [0,1,2] (by decide) J (row3p (Yp (Yt _ (by rw [bo_is h3 h5,hb6])))) (.c J (.c J (.c J (.c J (.c J (.nil))))))⟩
    ·have hb6 : decide (bodyInts a.Bodies[i] ≠ bodyInts b.Bodies[i]) = false := decide_eq_false h6
     refine Wz [52,22] ?_;refine Xh u8_41 u8_44 u8_45 J ?_;refine Wz [3,33,123,132,3,23,66,103,158,23,66,103,158] ?_;refine DR.s (Qt.yes J J J (q_aneq (ps := []) (qs := []) (xs := bodyInts a.Bodies[i]) (ys := bodyInts b.Bodies[i]) J J J J J J J J hb6)) J J ?_;refine Wz [59,31,45,38] ?_
     exact ⟨a.Bodies.length - (i + 1),by omega,(fun i : Nat => (⟨_,[(2,.o (.c (.ptr 0 0))),(3,.o (.c (.ptr 1 0))),(5,.o (.c (.ref 2))),(59,I (els a.Bodies).length),(60,I i)],[.box ((Enc.e a).map (V1.rd [])),.box ((Enc.e b).map (V1.rd [])),.row 1 (els (dB a b i))]⟩ : St)) (i + 1),⟨i + 1,by omega,trivial,J⟩,X8 [0,1,2] (by decide) J (row3p (congrArg els (filt_no _ (by rw [bo_is h3 h5,hb6])))) (.c J (.c J (.c J (.c J (.c J (.nil))))))⟩
  have h3 : ¬ i < a.Bodies.length := by have := of_decide_eq_false h; omega
  have hk2 : i = a.Bodies.length := by omega
  rw [hk2]
  refine Wz [32,20,5,12,2,13] ?_
  refine Xi (fun m__ st => ∃ (j : Nat),b.Scores.length - a.Scores.length - j = m__ ∧ (j ≤ b.Scores.length - a.Scores.length) ∧ st = (⟨_,[(2,.o (.c (.ptr 0 0))),(3,.o (.c (.ptr 1 0))),(5,.o (.c (.ref 2))),(8,I ((a.Scores.length + j : Nat) : Int))],[.box ((Enc.e a).map (V1.rd [])),.box ((Enc.e b).map (V1.rd [])),.row 1 (els (dC a b j))]⟩ : St)) _ ⟨(fun (j : Nat) => (⟨_,[(2,.o (.c (.ptr 0 0))),(3,.o (.c (.ptr 1 0))),(5,.o (.c (.ref 2))),(8,I ((a.Scores.length + j : Nat) : Int))],[.box ((Enc.e a).map (V1.rd [])),.box ((Enc.e b).map (V1.rd [])),.row 1 (els (dC a b j))]⟩ : St)) (0),⟨0,J,Nat.zero_le _,J⟩,X8 [0,1,2] (by decide) J (row3p (by rw [dC]; simp)) (.c J (.c J (.c J (.cons (Xy (by omega)) (.nil)))))⟩ ?_
  rintro m_C _ ⟨j,hk_C,hp_C,rfl⟩
  have hdl := dC_len a b j
  have hel := Ym (dC a b j)
  refine Wz [28,17,12,48,1] ?_
  refine Xb J (fun h => ?_) (fun h => ?_)
  ·have h3 : a.Scores.length + j < b.Scores.length := by have := of_decide_eq_true h; omega
   have hf := Xp (a.Scores.length + j) (by omega)
   have hfs := Yv (a.Scores.length + j)
   refine Wz [29,49,0] ?_;refine zx (Qj J J (hf) J) J ?_
   refine M0 (q_cat J J J J (by simp only [Yg,Yj,List.length_cons,List.length_nil,List.length_append]; omega)) J J ?_
   refine Wz [54,87,51,50] ?_
   refine ⟨_,(by omega),(fun (j : Nat) => (⟨_,[(2,.o (.c (.ptr 0 0))),(3,.o (.c (.ptr 1 0))),(5,.o (.c (.ref 2))),(8,I ((a.Scores.length + j : Nat) : Int))],[.box ((Enc.e a).map (V1.rd [])),.box ((Enc.e b).map (V1.rd [])),.row 1 (els (dC a b j))]⟩ : St)) (j + 1),⟨j + 1,J,by omega,J⟩,X8 [0,1,2] (by decide) J (row3p (Yp (rng_snoc _))) (.c J (.c J (.c J (.cons (Xy (by omega)) (.nil)))))⟩
  have h3 : ¬ a.Scores.length + j < b.Scores.length := by have := of_decide_eq_false h; omega
  have hk3 : j = b.Scores.length - a.Scores.length := by omega
  rw [hk3]
  refine Wz [32,20,5,12,2,13] ?_
  refine Xi (fun m__ st => ∃ (q : Nat),b.Bodies.length - a.Bodies.length - q = m__ ∧ (q ≤ b.Bodies.length - a.Bodies.length) ∧ st = (⟨_,[(2,.o (.c (.ptr 0 0))),(3,.o (.c (.ptr 1 0))),(5,.o (.c (.ref 2))),(9,I ((a.Bodies.length + q : Nat) : Int))],[.box ((Enc.e a).map (V1.rd [])),.box ((Enc.e b).map (V1.rd [])),.row 1 (els (dD a b q))]⟩ : St)) _ ⟨(fun (q : Nat) => (⟨_,[(2,.o (.c (.ptr 0 0))),(3,.o (.c (.ptr 1 0))),(5,.o (.c (.ref 2))),(9,I ((a.Bodies.length + q : Nat) : Int))],[.box ((Enc.e a).map (V1.rd [])),.box ((Enc.e b).map (V1.rd [])),.row 1 (els (dD a b q))]⟩ : St)) (0),⟨0,J,Nat.zero_le _,J⟩,X8 [0,1,2] (by decide) J (row3p (by rw [dD]; simp)) (.c J (.c J (.c J (.cons (Xy (by omega)) (.nil)))))⟩ ?_
  rintro m_D _ ⟨q,hk_D,hp_D,rfl⟩
  have hdl := dD_len a b q
  have hel := Ym (dD a b q)
  refine Wz [28,17,12,48,1] ?_
  refine Xb J (fun h => ?_) (fun h => ?_)
  ·have h3 : a.Bodies.length + q < b.Bodies.length := by have := of_decide_eq_true h; omega
   have hf := Xp (a.Bodies.length + q) (by omega)
   have hfs := Yv (a.Bodies.length + q)
   refine Wz [29,49,0] ?_;refine zx (Qj J J (hf) J) J ?_
   refine M0 (q_cat J J J J (by simp only [Yg,Yj,List.length_cons,List.length_nil,List.length_append]; omega)) J J ?_
   refine Wz [54,87,51,50] ?_
   refine ⟨_,(by omega),(fun (q : Nat) => (⟨_,[(2,.o (.c (.ptr 0 0))),(3,.o (.c (.ptr 1 0))),(5,.o (.c (.ref 2))),(9,I ((a.Bodies.length + q : Nat) : Int))],[.box ((Enc.e a).map (V1.rd [])),.box ((Enc.e b).map (V1.rd [])),.row 1 (els (dD a b q))]⟩ : St)) (q + 1),⟨q + 1,J,by omega,J⟩,X8 [0,1,2] (by decide) J (row3p (Yp (rng_snoc _))) (.c J (.c J (.c J (.cons (Xy (by omega)) (.nil)))))⟩
  have h3 : ¬ a.Bodies.length + q < b.Bodies.length := by have := of_decide_eq_false h; omega
  have hk4 : q = b.Bodies.length - a.Bodies.length := by omega
  rw [hk4]
  refine Wz [32,7,34] ?_
  exact Xn J J (X6 [2] (by decide) J J J)
end
section
open Go.RowKit

theorem I_DiagnoseNo (x y : TPeer) (M : Nat) (hx : PeerIn x) (hy : PeerIn y) (ox : peerOk x = true) (oy : peerOk y = true) (ha : x.Sums.length = M + 1) (hb : y.Sums.length = M + 1) (hM : M ≤ 1000) (h0 : ∀ k (h1 : k < x.Sums.length) (h2 : k < y.Sums.length),x.Sums[k] = y.Sums[k]) : Con Tryz.prog 12 [] [ag x,ag y] [] (.tu [.ag [jn 0,nv],.c (bv false)]) := by
 have c1 := Xs x hx.gd
 have c2 := Xs y hy.gd
 rw [ox] at c1
 rw [oy] at c2
 have c3 := I_HuntNo x.Sums y.Sums M ha hb hM h0
 refine Con.of Tryz.func12 J Tryz.ntmps12 J (fun E => ?_)
 refine Wz [26,79,18,22,15] ?_;refine zx (Qj J J (c1) J) J ?_;refine Wz [14,30,27,6] ?_;refine zx (Qj J J (c2) J) J ?_;refine Wz [6,14,8,35,5,17] ?_;refine M1 (Zk J J (c3) J J J) J J ?_;refine Wz [88,42,42,72,56,120,9,4,108,40,2,75,25] ?_
 exact Xm J J J J J (X6 [] (by decide) J J J)
theorem I_Diagnose (x y : TPeer) (W V : Nat → TWorld) (M F : Nat) (hx : PeerIn x) (hy : PeerIn y) (ox : peerOk x = true) (oy : peerOk y = true) (ha : x.Sums.length = M + 1) (hb : y.Sums.length = M + 1) (hM : M ≤ 1000) (hF : 1 ≤ F ∧ F ≤ M)
  (h0 : ∀ k (h1 : k < x.Sums.length) (h2 : k < y.Sums.length),k < F → x.Sums[k] = y.Sums[k]) (h3 : ∀ k (h1 : k < x.Sums.length) (h2 : k < y.Sums.length),F ≤ k → x.Sums[k] ≠ y.Sums[k])
  (hkx : F ≤ knownTicks x.Tracks) (hky : F ≤ knownTicks y.Tracks) (hW : W 0 = newWorld x.Base.Level x.Tracks.length x.Seed) (hRW : RunIn W x.Tracks x.Fault F) (hV : V 0 = newWorld y.Base.Level y.Tracks.length y.Seed) (hRV : RunIn V y.Tracks y.Fault F) :
  Con Tryz.prog 12 [] [ag x,ag y] [.row 1 (els (differ (W F) (V F)))] (.tu [.ag [jn F,.ref 0],.c (bv true)]) := by
 have c1 := Xs x hx.gd
 have c2 := Xs y hy.gd
 rw [ox] at c1
 rw [oy] at c2
 have c3 := I_RunHunt x.Sums y.Sums M F ha hb hM hF h0 h3
 generalize huntS F 0 M 2 = steps at c3
 have c4 := I_Replayed x W F hx ox hkx (by omega) hW hRW
 have c5 := I_Replayed y V F hy oy hky (by omega) hV hRV
 have c6 := I_DifferOf (W F) (V F) (hRW.wi F (Nat.le_refl _)).gd (hRV.wi F (Nat.le_refl _)).gd
 have f1 : decide ((F : Int) < 0) = false := decide_eq_false (by omega)
 generalize W F = w at c4 c6 ⊢
 generalize V F = v at c5 c6 ⊢
 generalize differ w v = ds at c6 ⊢
 refine Con.of Tryz.func12 J Tryz.ntmps12 J (fun E => ?_)
 refine Wz [26,79,18,22,15] ?_;refine zx (Qj J J (c1) J) J ?_;refine Wz [14,30,27,6] ?_;refine zx (Qj J J (c2) J) J ?_;refine Wz [6,14,8,35,5,17] ?_;refine M1 (Zk J J (c3) J J J) J J ?_;refine Wz [88,42,42,72,56,10,35,15,0] ?_;refine AL.weak (st' := (⟨_,[(2,.o (.c (.ptr 0 0))),(3,.o (.c (.ptr 1 0))),(4,.o (.c (.ptr 2 0))),(6,I F),(33,.o (.ag (pD x))),(34,I F)],[.box (pD x),.box (pD y),.box [jn 0,nv]]⟩ : St)) (X8 [0,1,2] (by decide) J ((by kernel_rfl)) (.c J (.c J (.c J (.c J (.c J (.c J (.nil)))))))) ?_;refine M1 (Zk J J (c4) J J J) J J ?_;refine Wz [88,42,42,18,40,2,15,0] ?_;refine AL.weak (st' := (⟨_,[(2,.o (.c (.ptr 0 0))),(3,.o (.c (.ptr 1 0))),(4,.o (.c (.ptr 2 0))),(6,I F),(8,.o (.c (.ptr 6 0))),(9,B true),(39,.o (.ag (pD y))),(40,I F)],[.box (pD x),.box (pD y),.box [jn 0,nv],.row 1 (els w.Level.Rows),.row 1 (els w.Scores),.row 9 (els w.Bodies),.box [.ref 3,jn w.Tick,jn w.Seed,.ref 4,.ref 5]]⟩ : St)) (X8 [0,1,2,3,4,5,6] (by decide) J ((by kernel_rfl)) (.c J (.c J (.c J (.c J (.c J (.c J (.c J (.c J (.nil)))))))))) ?_;refine M1 (Zk J J (c5) J J J) J J ?_;refine Wz [88,42,42,18,40,56,14,16,14,8,35,7,27,27] ?_;refine M1 (Zk J J (c6) J J J) J J ?_;refine Wz [108,40,34] ?_
 exact Xm J J J J J (X6 [11] (by decide) J J J)
end
section
open Go.RowKit

noncomputable def xP (l : TLevel) (n : Nat) (seed : Int) (rows : List (List Int)) (t u : Nat) : TPeer := peT rows n seed ((0 : Nat) : Int) 1 ⟨0,0,0⟩ (lockW l n seed rows) t u 0
noncomputable def xQ (l : TLevel) (n : Nat) (seed : Int) (rows : List (List Int)) (F P A : Nat) (t u : Nat) : TPeer := peT rows n seed ((n - 1 : Nat) : Int) 2 ⟨F,P,A⟩ (lockQ l n seed rows F P A) t u 0
section
variable {l : TLevel} {n : Nat} {seed : Int} {rows : List (List Int)} {F P A e : Nat}
noncomputable def pkQ (l : TLevel) (n : Nat) (seed : Int) (rows : List (List Int)) (F P A : Nat) : TPacket := ⟨((n - 1 : Nat) : Int),(lockQ l n seed rows F P A rows.length).Tick,rows.length,[],acks n rows.length,(lockQ l n seed rows F P A rows.length).Tick,wsum (lockQ l n seed rows F P A rows.length),0,0⟩
theorem pk_ok (hq : PW l n seed rows ⟨F,P,A⟩ (lockQ l n seed rows F P A) (n - 1) 2) : Enc.gd (pkQ l n seed rows F P A) ∧ packetOk (pkQ l n seed rows F P A) = true := by
 have hL := hq.hL
 have hn := hq.hn
 have ht := hq.ws.tk rows.length (Nat.le_refl _)
 have hs := wsum_rng (lockQ l n seed rows F P A rows.length)
 have hal : (acks n rows.length).length = n := by simp [acks]
 have hac : ∀ x ∈ acks n (rows.length : Int),x = rows.length := fun x hx => List.eq_of_mem_replicate hx
 have z6 : (0 : Int) ≤ 0 ∧ (0 : Int) ≤ 1000000 := by omega
 have zI : Enc.gd (0 : Int) := ⟨by decide,by decide⟩
 refine ⟨⟨⟨?_,?_⟩,⟨?_,?_⟩,⟨?_,?_⟩,⟨by show (0 : Nat) ≤ _; omega,fun x hx => by simp [pkQ] at hx⟩,⟨?_,fun x hx => ?_⟩,⟨?_,?_⟩,⟨?_,?_⟩,zI,zI⟩,packet_T ⟨⟨?_,?_⟩,List.all_eq_true.2 fun x hx => Y0.2 ?_,⟨?_,?_⟩,by show (0 : Nat) ≤ 40; omega,J,?_⟩⟩
 ·show _ ≤ ((n - 1 : Nat) : Int); omega
 ·show ((n - 1 : Nat) : Int) ≤ _; omega
 ·show _ ≤ (lockQ l n seed rows F P A rows.length).Tick; omega
 ·show (lockQ l n seed rows F P A rows.length).Tick ≤ _; omega
 ·show _ ≤ (rows.length : Int); omega
 ·show (rows.length : Int) ≤ _; omega
 ·show (acks n rows.length).length ≤ _; omega
 ·rw [hac x hx]; exact ⟨by omega,by omega⟩
 ·show _ ≤ (lockQ l n seed rows F P A rows.length).Tick; omega
 ·show (lockQ l n seed rows F P A rows.length).Tick ≤ _; omega
 ·show _ ≤ wsum _; omega
 ·show wsum _ ≤ _; omega
 ·show 1 ≤ (acks n rows.length).length; omega
 ·show (acks n rows.length).length ≤ 4; omega
 ·rw [hac x hx]; omega
 ·show (0 : Int) ≤ ((n - 1 : Nat) : Int); omega
 ·show ((n - 1 : Nat) : Int) ≤ ((acks n rows.length).length : Int) - 1; omega
 ·unfold tailOk
  simp only [Bool.and_eq_true,Y0]
  refine ⟨⟨⟨⟨⟨⟨?_,?_⟩,⟨?_,?_⟩⟩,⟨?_,?_⟩⟩,⟨?_,?_⟩⟩,z6⟩,z6⟩
  ·show (0 : Int) ≤ (rows.length : Int); omega
  ·show (rows.length : Int) ≤ 400 - (([] : List Int).length : Int)
   rw [show (([] : List Int).length : Int) = 0 from rfl]; omega
  ·show 0 ≤ (lockQ l n seed rows F P A rows.length).Tick; omega
  ·show (lockQ l n seed rows F P A rows.length).Tick ≤ 400; omega
  ·show 0 ≤ (lockQ l n seed rows F P A rows.length).Tick; omega
  ·show (lockQ l n seed rows F P A rows.length).Tick ≤ 400; omega
  ·show 0 ≤ wsum _; omega
  ·show wsum _ ≤ 274877906943; omega
theorem susp_law (R : RD l n seed e rows) (hP : P < n) (hA : 1 ≤ A ∧ A ≤ 9) (hp : peerOk (xP l n seed rows rows.length rows.length) = true) (hq : PW l n seed rows ⟨F,P,A⟩ (lockQ l n seed rows F P A) (n - 1) 2) : suspects (xP l n seed rows rows.length rows.length) (pkQ l n seed rows F P A) = decide (F ≤ rows.length) := by
 have ht := hq.ws.tk rows.length (Nat.le_refl _)
 have hst : (pkQ l n seed rows F P A).SumTick = (rows.length : Int) := ht
 have hs : (xP l n seed rows rows.length rows.length).Sums = sumsL (lockW l n seed rows) rows.length := rfl
 have hsl := Kd (lockW l n seed rows) rows.length
 have hg : (sumsL (lockW l n seed rows) rows.length).getD rows.length 0 = wsum (lockW l n seed rows rows.length) := by
  rw [List.getD_eq_getElem?_getD,List.getElem?_eq_getElem (by omega),Kc]; rfl
 have hsu : (pkQ l n seed rows F P A).Sum = wsum (lockQ l n seed rows F P A rows.length) := rfl
 unfold suspects
 rw [hp,(pk_ok hq).2,hst,hs,hsl,hsu,Int.toNat_natCast,hg,decide_eq_true (show (rows.length : Int) < ((rows.length + 1 : Nat) : Int) by omega)]
 by_cases h : F ≤ rows.length
 ·have f : decide (wsum (lockW l n seed rows rows.length) ≠ wsum (lockQ l n seed rows F P A rows.length)) = true := decide_eq_true (fun q => sum_diff R (by omega) hP hA q.symm)
  rw [decide_eq_true h,f]; rfl
 ·have f : decide (wsum (lockW l n seed rows rows.length) ≠ wsum (lockQ l n seed rows F P A rows.length)) = false := decide_eq_false (fun q => q (sum_same (by omega)).symm)
  rw [decide_eq_false h,f]; rfl
theorem clean_law (R : RD l n seed e rows) (hP : P < n) (hA : 1 ≤ A ∧ A ≤ 9) (hF : 1 ≤ F) (hp : peerOk (xP l n seed rows rows.length rows.length) = true) (hq : peerOk (xQ l n seed rows F P A rows.length rows.length) = true) : cleanUpTo (xP l n seed rows rows.length rows.length) (xQ l n seed rows F P A rows.length rows.length) = if F ≤ rows.length then (F : Int) - 1 else rows.length := by
 have hs : (xP l n seed rows rows.length rows.length).Sums = sumsL (lockW l n seed rows) rows.length := rfl
 have hs2 : (xQ l n seed rows F P A rows.length rows.length).Sums = sumsL (lockQ l n seed rows F P A) rows.length := rfl
 have hf := fd_law (F := F) (P := P) (A := A) R hP hA rows.length
 rw [← hs,← hs2] at hf
 by_cases h : F ≤ rows.length
 ·rw [if_pos h] at hf ⊢
  rw [clean_pos ⟨hp,hq⟩ (by omega),hf]
 ·rw [if_neg h] at hf ⊢
  rw [clean_neg ⟨hp,hq⟩ (by omega),hs,hs2,Kd,Kd]
  omega
theorem xP_at {k : Nat} (h1 : k < (xP l n seed rows rows.length rows.length).Sums.length) : (xP l n seed rows rows.length rows.length).Sums[k] = wsum (lockW l n seed rows k) := Kc (W := lockW l n seed rows) (L := rows.length) h1
theorem xQ_at {k : Nat} (h2 : k < (xQ l n seed rows F P A rows.length rows.length).Sums.length) : (xQ l n seed rows F P A rows.length rows.length).Sums[k] = wsum (lockQ l n seed rows F P A k) := Kc (W := lockQ l n seed rows F P A) (L := rows.length) h2
theorem diag_no (h : rows.length < F) : ∀ k (h1 : k < (xP l n seed rows rows.length rows.length).Sums.length) (h2 : k < (xQ l n seed rows F P A rows.length rows.length).Sums.length),(xP l n seed rows rows.length rows.length).Sums[k] = (xQ l n seed rows F P A rows.length rows.length).Sums[k] := fun k h1 h2 => by
 have h3 : k < rows.length + 1 := by
  have := Kd (lockW l n seed rows) rows.length
  have h4 : k < (sumsL (lockW l n seed rows) rows.length).length := h1
  omega
 rw [xP_at,xQ_at,sum_same (by omega)]
theorem diag_lo {k : Nat} (h1 : k < (xP l n seed rows rows.length rows.length).Sums.length) (h2 : k < (xQ l n seed rows F P A rows.length rows.length).Sums.length) (h : k < F) : (xP l n seed rows rows.length rows.length).Sums[k] = (xQ l n seed rows F P A rows.length rows.length).Sums[k] := by
 rw [xP_at,xQ_at,sum_same h]
theorem diag_hi (R : RD l n seed e rows) (hP : P < n) (hA : 1 ≤ A ∧ A ≤ 9) {k : Nat} (h1 : k < (xP l n seed rows rows.length rows.length).Sums.length) (h2 : k < (xQ l n seed rows F P A rows.length rows.length).Sums.length) (h : F ≤ k) : (xP l n seed rows rows.length rows.length).Sums[k] ≠ (xQ l n seed rows F P A rows.length rows.length).Sums[k] := by
 rw [xP_at,xQ_at]
 exact fun q => sum_diff R (by omega) hP hA q.symm
end
end
section
open Go.RowKit

theorem I_Blame1 (a b : List Int) (F : Nat) (ha : F < a.length) (hb : F < b.length) (hne : a[F] ≠ b[F]) : Con Tryz.prog 18 [] [al [a,b,a],ai F] [] (I 1) := by
 have hla := Ym a
 have hlb := Ym b
 have ea := Yl ha
 have eb := Yl hb
 generalize a[F] = u at ea hne
 generalize b[F] = v at eb hne
 have f0 : decide ((F : Int) < 0) = false := decide_eq_false (by omega)
 have f1 : decide (((els a).length : Int) ≤ (F : Int)) = false := decide_eq_false (by omega)
 have f2 : decide (((els b).length : Int) ≤ (F : Int)) = false := decide_eq_false (by omega)
 have g1 : decide (u ≠ v) = true := decide_eq_true hne
 have g2 : decide (v ≠ u) = true := decide_eq_true (fun e => hne e.symm)
 have g3 : decide (u ≠ u) = false := decide_eq_false (fun e => e rfl)
 have g4 : decide (v ≠ v) = false := decide_eq_false (fun e => e rfl)
 have hx : (els [a,b,a]).length = 3 := rfl
 have x0 : (els [a,b,a])[(0 : Int).toNat]? = some (Enc.e a) := rfl
 have x1 : (els [a,b,a])[(1 : Int).toNat]? = some (Enc.e b) := rfl
 have x2 : (els [a,b,a])[(2 : Int).toNat]? = some (Enc.e a) := rfl
 have x3 : (els [a,b,a])[(((0 : Int) + 1) % ((els [a,b,a]).length : Int)).toNat]? = some (Enc.e b) := rfl
 have x4 : (els [a,b,a])[(((1 : Int) + 1) % ((els [a,b,a]).length : Int)).toNat]? = some (Enc.e a) := rfl
 refine Con.of Tryz.func18 J Tryz.ntmps18 J (fun E => ?_)
 refine Wz [11,28,12,10,16,10,8,35,28,12,78,13] ?_;refine @A_loop _ _ _ _ _ (fun m st => (m = 3 ∧ st = (⟨77,[(0,L [a,b,a]),(1,I F),(18,L [a,b,a]),(19,I 3),(20,I 0)],[]⟩ : St)) ∨ (m = 2 ∧ st = (⟨77,[(0,L [a,b,a]),(1,I F),(18,L [a,b,a]),(19,I 3),(20,I 1)],[]⟩ : St)) ∨ (m = 1 ∧ st = (⟨77,[(0,L [a,b,a]),(1,I F),(18,L [a,b,a]),(19,I 3),(20,I 2)],[]⟩ : St)) ∨ (m = 0 ∧ st = (⟨77,[(0,L [a,b,a]),(1,I F),(18,L [a,b,a]),(19,I 3),(20,I 3)],[]⟩ : St))) 3 ⟨_,X7 [] (by kernel_rfl),.inl ⟨J,J⟩⟩ ?_
 rintro m st (⟨rfl,rfl⟩ | ⟨rfl,rfl⟩ | ⟨rfl,rfl⟩ | ⟨rfl,rfl⟩)
 ·refine Wz [4,120,21,46,96] ?_
  refine Wz [113,20,13,4,61,2,39,12,95,45,38] ?_
  refine ⟨2,by omega,(⟨77,[(0,L [a,b,a]),(1,I F),(18,L [a,b,a]),(19,I 3),(20,I 1)],[]⟩ : St),X7 [] (by kernel_rfl),.inr (.inl ⟨J,J⟩)⟩
 ·refine Wz [4,120,21,46,96] ?_
  refine Wz [113,20,13,4,61,2,39,12,95,45,38] ?_
  refine ⟨1,by omega,(⟨77,[(0,L [a,b,a]),(1,I F),(18,L [a,b,a]),(19,I 3),(20,I 2)],[]⟩ : St),X7 [] (by kernel_rfl),.inr (.inr (.inl ⟨J,J⟩))⟩
 ·refine Wz [4,120,21,46,96] ?_
  refine Wz [113,20,13,4,61,2,39,12,95,45,38] ?_
  refine ⟨0,by omega,(⟨77,[(0,L [a,b,a]),(1,I F),(18,L [a,b,a]),(19,I 3),(20,I 3)],[]⟩ : St),X7 [] (by kernel_rfl),.inr (.inr (.inr ⟨J,J⟩))⟩
 refine Wz [4,10,21,47,32,28,12,78,13] ?_;refine @A_loop _ _ _ _ _ (fun m st => (m = 1 ∧ st = (⟨77,[(0,L [a,b,a]),(1,I F),(29,L [a,b,a]),(30,I 3),(31,I 0)],[]⟩ : St)) ∨ (m = 0 ∧ st = (⟨77,[(0,L [a,b,a]),(1,I F),(29,L [a,b,a]),(30,I 3),(31,I 1)],[]⟩ : St))) 1 ⟨_,X7 [] (by kernel_rfl),.inl ⟨J,J⟩⟩ ?_
 rintro m st (⟨rfl,rfl⟩ | ⟨rfl,rfl⟩)
 ·refine Wz [4,120,21,46,96] ?_
  refine Wz [113,20,13,7,2,7,89,0,12,122] ?_;refine AL.weak (st' := (⟨_,[(0,L [a,b,a]),(1,I F),(29,L [a,b,a]),(30,I 3),(31,I 0),(7,I 0),(34,L [a,b,a]),(39,I 1)],[]⟩ : St)) (X8 [] (by decide) J ((by kernel_rfl)) (.c J (.c J (.c J (.c J (.c J (.c J (.c J (.c J (.nil)))))))))) ?_;refine Wz [61,0,61,2,39,61,0,61,0,69,56,12,78,13] ?_;refine @A_loop _ _ _ _ _ (fun m st => (m = 2 ∧ st = (⟨77,[(0,L [a,b,a]),(1,I F),(29,L [a,b,a]),(30,I 3),(31,I 0),(7,I 0),(8,I v),(9,B true),(55,I 3),(56,I 0)],[]⟩ : St)) ∨ (m = 1 ∧ st = (⟨77,[(0,L [a,b,a]),(1,I F),(29,L [a,b,a]),(30,I 3),(31,I 0),(7,I 0),(8,I v),(9,B true),(55,I 3),(56,I 1)],[]⟩ : St)) ∨ (m = 0 ∧ st = (⟨77,[(0,L [a,b,a]),(1,I F),(29,L [a,b,a]),(30,I 3),(31,I 0),(7,I 0),(8,I v),(9,B true),(55,I 3),(56,I 2)],[]⟩ : St))) 2 ⟨_,X7 [] (by kernel_rfl),.inl ⟨J,J⟩⟩ ?_
  rintro m st (⟨rfl,rfl⟩ | ⟨rfl,rfl⟩ | ⟨rfl,rfl⟩)
  ·refine Wz [4,120,21,46,96] ?_
   refine Wz [113,20,13,7,2,39,69,44,53,53,53,84,8,45,38] ?_
   refine ⟨1,by omega,(⟨77,[(0,L [a,b,a]),(1,I F),(29,L [a,b,a]),(30,I 3),(31,I 0),(7,I 0),(8,I v),(9,B true),(55,I 3),(56,I 1)],[]⟩ : St),X7 [] (by kernel_rfl),.inr (.inl ⟨J,J⟩)⟩
  ·refine Wz [4,120,21,46,96] ?_
   refine Wz [113,20,13,7,2,39,97,16,30,77,6,117,6,30,77,6,117,6,30,69,24,45,38] ?_
   refine ⟨0,by omega,(⟨77,[(0,L [a,b,a]),(1,I F),(29,L [a,b,a]),(30,I 3),(31,I 0),(7,I 0),(8,I v),(9,B true),(55,I 3),(56,I 2)],[]⟩ : St),X7 [] (by kernel_rfl),.inr (.inr ⟨J,J⟩)⟩
  refine Wz [4,120,21,46,52,2,39,97,16,30,77,6,117,6,30,77,6,117,6,30,69,24,9,11,143] ?_;refine B_xo J ?_;refine Wz [170,113,7,45,38] ?_
  refine ⟨0,by omega,(⟨77,[(0,L [a,b,a]),(1,I F),(29,L [a,b,a]),(30,I 3),(31,I 1)],[]⟩ : St),X7 [] (by kernel_rfl),.inr ⟨J,J⟩⟩
 refine Wz [4,120,21,46,52,2,7,89,0,12,122] ?_;refine AL.weak (st' := (⟨_,[(0,L [a,b,a]),(1,I F),(29,L [a,b,a]),(30,I 3),(31,I 1),(7,I 1),(34,L [a,b,a]),(39,I 2)],[]⟩ : St)) (X8 [] (by decide) J ((by kernel_rfl)) (.c J (.c J (.c J (.c J (.c J (.c J (.c J (.c J (.nil)))))))))) ?_;refine Wz [61,0,61,2,39,61,0,61,0,69,56,12,78,13] ?_;refine @A_loop _ _ _ _ _ (fun m st => (m = 3 ∧ st = (⟨77,[(0,L [a,b,a]),(1,I F),(29,L [a,b,a]),(30,I 3),(31,I 1),(7,I 1),(8,I u),(9,B true),(55,I 3),(56,I 0)],[]⟩ : St)) ∨ (m = 2 ∧ st = (⟨77,[(0,L [a,b,a]),(1,I F),(29,L [a,b,a]),(30,I 3),(31,I 1),(7,I 1),(8,I u),(9,B true),(55,I 3),(56,I 1)],[]⟩ : St)) ∨ (m = 1 ∧ st = (⟨77,[(0,L [a,b,a]),(1,I F),(29,L [a,b,a]),(30,I 3),(31,I 1),(7,I 1),(8,I u),(9,B true),(55,I 3),(56,I 2)],[]⟩ : St)) ∨ (m = 0 ∧ st = (⟨77,[(0,L [a,b,a]),(1,I F),(29,L [a,b,a]),(30,I 3),(31,I 1),(7,I 1),(8,I u),(9,B true),(55,I 3),(56,I 3)],[]⟩ : St))) 3 ⟨_,X7 [] (by kernel_rfl),.inl ⟨J,J⟩⟩ ?_
 rintro m st (⟨rfl,rfl⟩ | ⟨rfl,rfl⟩ | ⟨rfl,rfl⟩ | ⟨rfl,rfl⟩)
 ·refine Wz [4,120,21,46,96] ?_
  refine Wz [113,20,13,7,2,39,97,16,30,77,6,117,6,30,77,6,117,6,30,69,24,45,38] ?_
  refine ⟨2,by omega,(⟨77,[(0,L [a,b,a]),(1,I F),(29,L [a,b,a]),(30,I 3),(31,I 1),(7,I 1),(8,I u),(9,B true),(55,I 3),(56,I 1)],[]⟩ : St),X7 [] (by kernel_rfl),.inr (.inl ⟨J,J⟩)⟩
 ·refine Wz [4,120,21,46,96] ?_
  refine Wz [113,20,13,7,2,39,69,44,53,53,53,84,8,45,38] ?_
  refine ⟨1,by omega,(⟨77,[(0,L [a,b,a]),(1,I F),(29,L [a,b,a]),(30,I 3),(31,I 1),(7,I 1),(8,I u),(9,B true),(55,I 3),(56,I 2)],[]⟩ : St),X7 [] (by kernel_rfl),.inr (.inr (.inl ⟨J,J⟩))⟩
 ·refine Wz [4,120,21,46,96] ?_
  refine Wz [113,20,13,7,2,39,97,16,30,77,6,117,6,30,77,6,117,6,30,69,24,45,38] ?_
  refine ⟨0,by omega,(⟨77,[(0,L [a,b,a]),(1,I F),(29,L [a,b,a]),(30,I 3),(31,I 1),(7,I 1),(8,I u),(9,B true),(55,I 3),(56,I 3)],[]⟩ : St),X7 [] (by kernel_rfl),.inr (.inr (.inr ⟨J,J⟩))⟩
 refine Wz [4,10,21,47,32,7,9,7,2,75,63,25] ?_
 exact Xn J J (X6 [] (by decide) J J J)
end
section
open Go.RowKit

theorem L_sameTexts (xs ys : List ByteArray) (hn : Enc.gd xs) : Con Tryz.prog 16 [] [al xs,al ys] [] (B (decide (xs = ys))) := by
 have hn1 := hn.1
 have hlx := Ym xs
 have hly := Ym ys
 by_cases hl : xs.length = ys.length
 ·have hb : decide (((els xs).length : Int) ≠ ((els ys).length : Int)) = false := by rw [hlx,hly,hl]; simp
  refine Con.of Tryz.func16 J Tryz.ntmps16 J (fun E => ?_)
  refine Wz [11,28,12,0,12,69,60,70,11,13] ?_;refine Xi (fun m st => ∃ k : Nat,k + m = xs.length ∧ (xs.take k = ys.take k) ∧ st = (⟨_,[(0,L xs),(1,L ys),(5,I k)],[]⟩ : St)) (xs.length) ⟨_,⟨0,by omega,by simp,J⟩,X7 [] (by kernel_rfl)⟩ ?_
  rintro m_A _ ⟨k,hk_A,hp_A,rfl⟩
  refine Wz [36,12,48,1] ?_
  refine Xb J (fun h => ?_) (fun h => ?_)
  ·have h3 : k < xs.length := by have := of_decide_eq_true h; omega
   have h4 : k < ys.length := by omega
   have hat := Yl h3
   have hat2 := Yl h4
   by_cases he : xs[k] = ys[k]
   ·have hk : decide (xs[k] ≠ ys[k]) = false := by simp [he]
    refine Wz [29,20] ?_;refine Xh u8_18 u8_46 u8_47 J ?_;refine Wz [3,3,101,102,3,3,101,102] ?_;refine DR.s (q_sneqK J J J J (by assumption)) J J ?_;refine Wz [31,45,50] ?_
    exact ⟨xs.length - (k + 1),by omega,_,⟨k + 1,by omega,eq_next h3 h4 hp_A he,J⟩,X7 [] (by kernel_rfl)⟩
   ·have hk : decide (xs[k] ≠ ys[k]) = true := by simp [he]
    refine Wz [29,20] ?_;refine Xh u8_18 u8_46 u8_47 J ?_;refine Wz [3,3,101,102,3,3,101,102] ?_;refine DR.s (q_sneqK J J J J (by assumption)) J J ?_;refine Wz [31,9,62,63,25] ?_
    exact Xn J J (X6 [] (by decide) J J (Xj (eq_ne h3 h4 he).symm))
  ·have h3 : ¬ ((k : Int) < (els xs).length) := of_decide_eq_false h
   refine Wz [32,11,67] ?_
   exact Xn J J (X6 [] (by decide) J J (Xj (eq_all (by omega) hl hp_A).symm))
 ·have hb : decide (((els xs).length : Int) ≠ ((els ys).length : Int)) = true := by rw [hlx,hly]; simp; omega
  refine Con.of Tryz.func16 J Tryz.ntmps16 J (fun E => ?_)
  refine Wz [11,28,12,0,12,69,9,55] ?_
  exact Xn J J (X6 [] (by decide) J J (Xj (eq_len hl).symm))
end
end Go.Proofs.YtpmacgnmlmmojaaGreatDoor
