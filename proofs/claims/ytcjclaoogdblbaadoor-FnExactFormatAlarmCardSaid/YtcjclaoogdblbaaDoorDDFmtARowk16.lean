/-
  Parts of the proof (rules, data, and what functions of the program and of the reference return), among them: FormatAlarm, in the program and in the reference; The law FnExactFormatAlarm returns true.
  Conditions: those that each theorem names.
-/
import Derived.Test.YtcjclaoogdblbaaDoorDDFmtARowk6
import Derived.Test.YtcjclaoogdblbaaDoorDDFmtARowk12
import Derived.Test.YtcjclaoogdblbaaDoorDDFmtARowk14
import Derived.Test.YtcjclaoogdblbaaDoorDDFmtARowk15
set_option linter.unusedSimpArgs false
set_option linter.unusedVariables false
set_option maxRecDepth 8000
set_option maxHeartbeats 8000000
namespace Go.Proofs.YtcjclaoogdblbaaDoor
section
open Go.RowKit

theorem str_cells {w : World} {G : Nat → Prop} {xs : List ByteArray} {v : Value} (h : RO w G (sl xs) v) : (xs = [] ∧ ∃ A c,v = .slice A 0 c) ∨ ∃ b o c,v = .slice (some ⟨b,o,none⟩) xs.length c ∧ b < w.heap.size ∧ xs.length ≤ c ∧ ∀ (j : Nat) x,xs[j]? = some x → w.cell? ⟨b,o + j,none⟩ = some (.string x) := by
 have hl := els_len xs
 obtain ⟨A,c,hv,hc,hm⟩ := RO.form h
 rw [hl] at hv hc
 cases xs with
 | nil => exact .inl ⟨rfl,A,c,hv⟩
 | cons x xs =>
  refine .inr ?_
  obtain ⟨b,o,c',hv',_,hp,hk,hcell⟩ := RO.at_ h (i := 0) (e := Enc.e x) rfl
  rw [hv] at hv'
  simp only [Value.slice.injEq] at hv'
  obtain ⟨hA,_,rfl⟩ := hv'
  obtain ⟨u,hu,_⟩ := hcell 0 (.v (.string x)) rfl
  refine ⟨b,o,c,by rw [hv,hA],World.block_lt_of_cell? w _ hu,hc,fun j y hj => ?_⟩
  have hje : (els (x :: xs))[j]? = some (Enc.e y) := by simp only [els,List.getElem?_map,hj,Option.map_some]
  obtain ⟨b2,o2,c2,hv2,_,_,_,hcell2⟩ := RO.at_ h hje
  rw [hv] at hv2
  simp only [Value.slice.injEq] at hv2
  obtain ⟨hA2,_,_⟩ := hv2
  rw [hA] at hA2
  simp only [Option.some.injEq,Addr.mk.injEq] at hA2
  obtain ⟨rfl,rfl,_⟩ := hA2
  obtain ⟨u2,hu2,hr2⟩ := hcell2 0 (.v (.string y)) rfl
  obtain ⟨rfl,_⟩ := RO.plain hr2
  have hk1 : (Enc.k ByteArray) = 1 := rfl
  rw [hk1] at hu2
  simpa using hu2
def joinB (xs : List ByteArray) (sep : ByteArray) : ByteArray := ⟨(Lib.join (xs.map (·.data.toList)) sep.data.toList).toArray⟩
theorem I_Join (xs : List ByteArray) (sep : ByteArray) (h1 : xs.length ≤ 140737488355328) (h2 : (Lib.join (xs.map (·.data.toList)) sep.data.toList).length ≤ 140737488355328) : Con Tryd.prog 34 [] [al xs,astr sep] [] (S (joinB xs sep)) := by
 refine Con.kit J fun w H F vs hok hnil hlen hargs => ?_
 match vs,hlen with
 | [v,u],_ =>
  have h3 := hargs 0 _ v J J
  have h4 := hargs 1 _ u J J
  obtain ⟨rfl,_⟩ : u = .string sep ∧ _ := RO.plain h4
  rcases str_cells h3 with ⟨rfl,A,c,rfl⟩ | ⟨b,o,c,rfl,hb,hc,hcell⟩
  ·exact (Tryd.strings_Join_none A c sep w).mono fun e w' ⟨he,hw⟩ => ⟨he,hw ▸ Below.refl _ _⟩
  ·exact Tryd.strings_Join b o c xs sep w hcell hb h1 hc h2
def joinG (xs : List ByteArray) (sep : ByteArray) : Nat → ByteArray
 | 0 => ⟨#[]⟩
 | k + 1 => (if 0 < k then joinG xs sep k ++ sep else joinG xs sep k) ++ (xs.getD k ⟨#[]⟩)
theorem joinG_list (xs : List ByteArray) (sep : ByteArray) : ∀ k,k ≤ xs.length → (joinG xs sep k).data.toList = Lib.join ((xs.map (·.data.toList)).take k) sep.data.toList
 | 0,_ => rfl
 | k + 1,h => by
  have ih := joinG_list xs sep k (by omega)
  have hk : k < xs.length := by omega
  have hx : (xs.map (·.data.toList))[k]? = some xs[k].data.toList := by rw [List.getElem?_map,List.getElem?_eq_getElem hk]; rfl
  have hd : xs.getD k ⟨#[]⟩ = xs[k] := by simp [List.getD_eq_getElem?_getD,hk]
  cases k with
  | zero =>
   rw [joinG,if_neg (by omega),hd,ByteArray.data_append,Array.toList_append,ih,List.take_add_one,hx]
   simp [Lib.join,List.intercalate]
  | succ j =>
   obtain ⟨x,r,hr⟩ : ∃ x r,xs.map (·.data.toList) = x :: r := by
    cases hm : xs.map (·.data.toList) with
    | nil => rw [hm] at hx; simp at hx
    | cons x r => exact ⟨x,r,rfl⟩
   rw [hr] at ih hx ⊢
   rw [joinG,if_pos (by omega),hd,ByteArray.data_append,Array.toList_append,ByteArray.data_append,Array.toList_append,ih,List.take_succ_cons,Lib.join_cons,List.take_succ_cons,Lib.join_cons,Lib.joinTail_take_succ sep.data.toList r j xs[j + 1].data.toList (by simpa using hx)]
   simp [List.append_assoc]
theorem joinG_all (xs : List ByteArray) (sep : ByteArray) : joinG xs sep xs.length = joinB xs sep := by
 have h := joinG_list xs sep xs.length (Nat.le_refl _)
 rw [List.take_of_length_le (by simp)] at h
 rw [joinB,← h]
theorem joinG_size (xs : List ByteArray) (sep : ByteArray) : ∀ k,k ≤ xs.length → (joinG xs sep k).size ≤ wts (xs.take k) + sep.size * k
 | 0,_ => by show (0 : Nat) ≤ _; omega
 | k + 1,h => by
  have ih := joinG_size xs sep k (by omega)
  have hw := wts_take xs k (by omega)
  have hd : xs.getD k ⟨#[]⟩ = xs[k]'(by omega) := by simp [List.getD_eq_getElem?_getD,show k < xs.length by omega]
  have hws : Enc.wt (xs[k]'(by omega)) = (xs[k]'(by omega)).size := rfl
  rw [joinG,Xb,hd,hw,hws,Nat.mul_succ]
  split
  ·rw [Xb]; omega
  ·omega
theorem joinB_size (xs : List ByteArray) (sep : ByteArray) : (joinB xs sep).size ≤ wts xs + sep.size * xs.length := by
 have h := joinG_size xs sep xs.length (Nat.le_refl _)
 rw [joinG_all,List.take_of_length_le (Nat.le_refl _)] at h
 exact h
theorem joinB_len (xs : List ByteArray) (sep : ByteArray) : (Lib.join (xs.map (·.data.toList)) sep.data.toList).length = (joinB xs sep).size := by simp [joinB,ByteArray.size]
end
section
open Go.RowKit

structure TAlarm where
 Tick : Int
 Parts : (List ByteArray)
 deriving DecidableEq
instance : Enc TAlarm := ⟨2,by omega,fun x => [.v (.int .i64 x.Tick),sl x.Parts],fun _ => rfl,fun x => Enc.gd x.Tick ∧ Enc.gd x.Parts,fun x => Enc.wt x.Parts⟩
theorem TAlarm.same {x y : TAlarm} (h0 : x.Tick = y.Tick) (h1 : x.Parts = y.Parts) : x = y := by cases x; cases y; simp_all
theorem sz_Alarm (x : TAlarm) (left : Int) (hg : Enc.gd x) (h0 : 0 ≤ left) (h1 : left ≤ 1048576) : Con Tryd.prog 8 [] [ag x,ai left] [] (I (szr (Enc.wt x) left)) := by
 obtain ⟨g_Tick,g_Parts⟩ := hg
 have hw : Enc.wt x = Enc.wt x.Parts := rfl
 have hm1 : decide ((-1 : Int) < 0) = true := rfl
 have hc_Parts := sz_StringS x.Parts (left) g_Parts (by omega) (by omega)
 by_cases n_Parts : left < Enc.wt x.Parts
 ·rw [szr_neg n_Parts] at hc_Parts
  refine Con.of Tryd.func8 J Tryd.ntmps8 J (fun E => ?_)
  refine zy (M1 (Qm J J J J) J J (z1 J (zz (zy (z2 J J J (z3 J (z0 J ?_)))))));refine zx (Qi J J (hc_Parts) J) J ?_;refine z1 J (zz (Qd (zy (z0 J (z9a J (by assumption) (zz (Ql J (Qd ?_))))))));refine Qc (z1 J (zz (Q2 (T_r (F_r ?_)))))
  exact Q6 J J (Q7 [] (by decide) J J (I_eq (by rw [szr_neg (by omega)])))
 rw [szr_pos (by omega)] at hc_Parts
 have hb_Parts : decide (left - Enc.wt x.Parts < 0) = false := decide_eq_false (by omega)
 refine Con.of Tryd.func8 J Tryd.ntmps8 J (fun E => ?_)
 refine zy (M1 (Qm J J J J) J J (z1 J (zz (zy (z2 J J J (z3 J (z0 J ?_)))))));refine zx (Qi J J (hc_Parts) J) J ?_;refine z1 J (zz (Qd (zy (z0 J (z9a J (by assumption) (zz (Qk J (Qh ?_))))))));refine Qv (zy (z0 J (z1 J (zz (Q2 (F_r ?_))))))
 exact Q6 J J (Q7 [] (by decide) J J (I_eq (by rw [szr_pos (by omega)]; omega)))
theorem to_Alarm (x : TAlarm) (hg : Enc.wt x ≤ 1048576) : Con Tryd.prog 10 [] [ag x] (ownO (Enc.e x)) (.o (.ag (ownV 0 (Enc.e x)))) := by
 have hw : Enc.wt x = Enc.wt x.Parts := rfl
 refine Con.of Tryd.func10 J Tryd.ntmps10 J (fun E => ?_)
 refine zy (M1 (Qm J J J J) J J (M1 (Qs J J J) J J (zz (zy (M1 (Qs J J J) J J (zz (Qd ?_)))))));refine Qc (z2 J J J (z3 J (z2 J J J ?_)));refine Q0 J J J J J J J J (zz (zy (z2 J J J (z3 J ?_))));refine M1 (q_call J J (to_StringS x.Parts (by omega)) J J J) J J ?_;refine z2 J J J ?_;refine Q0 J J J J J J J J (zz (zy (z4 J J J ?_)));refine Qu J J J J J J J J J (zz (Q2 (F_r ?_)))
 exact E_cell J J J J (Q7 [3] (by decide) J J J)
theorem eq_Alarm (x y : TAlarm) (hg : Enc.gd x) : Con Tryd.prog 12 [] [ag x,ag y] [] (B (decide (x = y))) := by
 obtain ⟨g_Tick,g_Parts⟩ := hg
 by_cases e_Tick : ¬ x.Tick = y.Tick
 ·have hk : decide (x.Tick ≠ y.Tick) = true := by simp [e_Tick]
  refine Con.of Tryd.func12 J Tryd.ntmps12 J (fun E => ?_)
  refine zy (M1 (Qm J J J J) J J (M1 (Qm J J J J) J J (z1 J (zz (Qd (zy (z2 J J J (z3 J ?_))))))));refine z2 J J J (z3 J (z9f J (by assumption) (zz (Ql J (zy (z1 J (zz (Q2 ?_))))))));refine T_r (F_r ?_)
  exact Q6 J J (Q7 [] (by decide) J J (B_eq (decide_eq_false fun e => e_Tick (by rw [e])).symm))
 have e_Tick := Classical.not_not.1 e_Tick
 have k_Tick : decide (x.Tick ≠ y.Tick) = false := by simp [e_Tick]
 by_cases e_Parts : ¬ x.Parts = y.Parts
 ·have hc := eq_StringS x.Parts y.Parts g_Parts
  rw [decide_eq_false e_Parts] at hc
  refine Con.of Tryd.func12 J Tryd.ntmps12 J (fun E => ?_)
  refine zy (M1 (Qm J J J J) J J (M1 (Qm J J J J) J J (z1 J (zz (Qd (zy (z2 J J J (z3 J ?_))))))));refine z2 J J J (z3 J (z9f J (by assumption) (zz (Qk J (Qh (Qv (Qd (zy (z2 J J J ?_)))))))));refine z3 J (z2 J J J (z3 J ?_));refine zx (Qi J J (hc) J) J ?_;refine zn J (zz (Ql J (zy (z1 J (zz (Q2 (T_r (F_r ?_))))))))
  exact Q6 J J (Q7 [] (by decide) J J (B_eq (decide_eq_false fun e => e_Parts (by rw [e])).symm))
 have e_Parts := Classical.not_not.1 e_Parts
 have hc_Parts := eq_StringS x.Parts y.Parts g_Parts
 rw [decide_eq_true e_Parts] at hc_Parts
 refine Con.of Tryd.func12 J Tryd.ntmps12 J (fun E => ?_)
 refine zy (M1 (Qm J J J J) J J (M1 (Qm J J J J) J J (z1 J (zz (Qd (zy (z2 J J J (z3 J ?_))))))));refine z2 J J J (z3 J (z9f J (by assumption) (zz (Qk J (Qh (Qv (Qd (zy (z2 J J J ?_)))))))));refine z3 J (z2 J J J (z3 J ?_));refine zx (Qi J J (hc_Parts) J) J ?_;refine zn J (zz (Qk J (Qh (Qv (zy (z1 J (zz (Q2 ?_))))))));refine F_r ?_
 exact Q6 J J (Q7 [] (by decide) J J (B_eq (decide_eq_true (TAlarm.same e_Tick e_Parts)).symm))
end
section
open Go.RowKit

section
variable {P : Program} {E : Env} {l : List Oper} {Q : Exit → St → Prop} {st : St} {a : Act} {w : World}
structure DAL (P : Program) (E : Env) (l : List Oper) (Q : Exit → St → Prop) (f : Nat) (listed : Array Bool) (st : St) : Prop where
 h : ∀ a w,Rel E st a w → wpAny P .any l.toArray (fun e a' w' => ∃ st',Q e st' ∧ Rel E st' a' w') f listed a w
theorem wpop_of {K : St → Prop} {K' : Act → World → Prop} {i : Nat} {o : Oper} (h : wpList P l.toArray (fun e a' w' => ∃ st',thn K Q e st' ∧ Rel E st' a' w') [o] a w) (hi : l[i]? = some o) (hK : ∀ st a' w',K st → Rel E st a' w' → K' a' w') :
  wpOp P l.toArray (fun e a' w' => ∃ st',Q e st' ∧ Rel E st' a' w') i K' a w := by
 have hoi : l.toArray[i]? = some o := by simpa using hi
 unfold wpOp
 simp only [hoi]
 have hn : ∀ a' w',wpList P l.toArray (fun e a' w' => ∃ st',thn K Q e st' ∧ Rel E st' a' w') [] a' w' → K' a' w' := fun a' w' h' => by
  obtain ⟨st',h1,h2⟩ := h'
  exact hK st' a' w' h1.h h2
 unfold wpList at h
 split
 ·rename_i hw
  rw [if_pos hw] at h
  rcases h with h | ⟨h,a1,w1,st1,h1,h2⟩
  ·left
   unfold Oper.wp at h ⊢
   generalize (execOp a.eval o).run P w = r at h ⊢
   cases r with
   | ok n w' =>
    cases n <;> simp only [Oper.upon] at h ⊢ <;>
     first
      | exact hn _ _ h
      | exact Calls.mono h (fun e w'' he => by
        cases e
        ·exact hn _ _ he
        ·obtain ⟨st',h1,h2⟩ := he; exact ⟨st',h1.h,h2⟩
        ·obtain ⟨a1,w1,st',h1,h2⟩ := he; exact ⟨a1,w1,st',h1.h,h2⟩)
      | exact Rows.mono h (fun _ _ he => hn _ _ he)
   | halt x w' =>
    cases x <;> simp only [Oper.upon] at h ⊢ <;>
     first
      | exact h
      | (obtain ⟨st',h1,h2⟩ := h; exact ⟨st',h1.h,h2⟩)
      | (obtain ⟨a1,w1,st',h1,h2⟩ := h; exact ⟨a1,w1,st',h1.h,h2⟩)
  ·exact .inr ⟨h,a1,w1,st1,h1.h,h2⟩
 ·rename_i hw
  rw [if_neg hw] at h
  exact hn _ _ h
theorem DAL.nil {listed : Array Bool} (hr : Region.ready .any l.toArray listed = []) (h : Q .normal st) : DAL P E l Q 0 listed st := ⟨fun a w hR => ⟨hr,st,h,hR⟩⟩
theorem DAL.weak {f : Nat} {listed : Array Bool} {st' : St} (hw : Wk st st') (h : DAL P E l Q f listed st') : DAL P E l Q f listed st := ⟨fun a w hr => h.h a w (hr.weak hw)⟩
theorem DAL.one {f : Nat} {listed : Array Bool} (i : Nat) {o : Oper} (hr : Region.ready .any l.toArray listed = [i]) (ho : l[i]? = some o) (h : AL P E l.toArray (thn (DAL P E l Q f (listed.setIfInBounds i true)) Q) [o] st) : DAL P E l Q (f + 1) listed st :=
 ⟨fun a w hR => ⟨fun e => (List.cons_ne_nil _ _ (hr.symm.trans e)).elim,fun j hj => by
  rw [hr,List.mem_singleton] at hj
  subst hj
  exact wpop_of (h.h a w hR) ho fun st' a' w' h1 h2 => h1.h a' w' h2⟩⟩
theorem DAL.two {f : Nat} {listed : Array Bool} (i k : Nat) {o p : Oper} (hr : Region.ready .any l.toArray listed = [i,k]) (ho : l[i]? = some o) (hp : l[k]? = some p) (h : AL P E l.toArray (thn (DAL P E l Q f (listed.setIfInBounds i true)) Q) [o] st) (h2 : AL P E l.toArray (thn (DAL P E l Q f (listed.setIfInBounds k true)) Q) [p] st) : DAL P E l Q (f + 1) listed st :=
 ⟨fun a w hR => ⟨fun e => (List.cons_ne_nil _ _ (hr.symm.trans e)).elim,fun j hj => by
  rw [hr] at hj
  simp only [List.mem_cons,List.not_mem_nil,or_false] at hj
  rcases hj with rfl | rfl
  ·exact wpop_of (h.h a w hR) ho fun st' a' w' h1 h2 => h1.h a' w' h2
  ·exact wpop_of (h2.h a w hR) hp fun st' a' w' h1 h2 => h1.h a' w' h2⟩⟩
def src2 : Op → Option Nat
 | .fieldAddr _ (.tmp t) _ => some t
 | o => srcO o
theorem src2_exec {o : Oper} {t : Nat} (h : src2 o.op = some t) : ∀ r r' : Operand → Value,r (.tmp t) = r' (.tmp t) → execOp r o = execOp r' o := fun r r' e => by
 unfold src2 at h
 split at h
 ·rename_i ho
  cases h
  simp only [execOp,ho,e]
 ·exact srcO_exec h r r' e
def late2 (ops : List Oper) (A : List (List Nat)) (m : Nat) : Bool := match ops[m]? with
 | some o => match src2 o.op,o.dst with
  | some t,some d => o.guard.isNone && !Nat.beq t d && allB ops.length fun j => Nat.beq j m || match ops[j]? with
   | some oj => oj.guard.isNone && (oj.dst != some t || memN (A.getD m []) j) && oj.dst != some d && (memN (A.getD j []) m || blindO d oj.op)
   | none => true
  | _,_ => false
 | none => false
theorem late2_spec {A : List (List Nat)} {m : Nat} (h : late2 l A m = true) : ∃ o t d,l[m]? = some o ∧ src2 o.op = some t ∧ o.dst = some d ∧ o.guard = none ∧ t ≠ d ∧
  ∀ j oj,j ≠ m → l[j]? = some oj → oj.guard = none ∧ (oj.dst ≠ some t ∨ j ∈ A.getD m []) ∧ oj.dst ≠ some d ∧ (m ∈ A.getD j [] ∨ blindO d oj.op = true) := by
 unfold late2 at h
 split at h
 ·rename_i o hl
  split at h
  ·rename_i t d ho hd
   simp only [Bool.and_eq_true] at h
   obtain ⟨⟨h1,h3⟩,h4⟩ := h
   refine ⟨o,t,d,hl,ho,hd,by simpa using h1,fun e => ?_,fun j oj hj hoj => ?_⟩
   ·subst e
    rw [show Nat.beq t t = true from Nat.beq_refl t] at h3
    cases h3
   ·have h5 := Q8 h4 (Xd hoj)
    rw [hoj,Bool.or_eq_true] at h5
    rcases h5 with h5 | h5
    ·exact absurd (Nat.eq_of_beq_eq_true h5) hj
    ·simp only [Bool.and_eq_true] at h5
     obtain ⟨⟨⟨h6,h7⟩,h8⟩,h9⟩ := h5
     refine ⟨by simpa using h6,?_,by simpa using h8,?_⟩
     ·rw [Bool.or_eq_true] at h7
      exact h7.imp (fun h => by simpa using h) (Xh _ _).1
     ·rw [Bool.or_eq_true] at h9
      exact h9.imp (Xh _ _).1 id
  ·cases h
 ·cases h
def cloB (l : List Oper) (listed : Array Bool) : Bool := allB l.length fun i => !listed.getD i false || (preAt l i).all fun k => listed.getD k false
def hoB (l : List Oper) (A S M : List (List Nat)) (m : Nat) (listed : Array Bool) : Bool :=
 drawB l A S M l.length && late2 l A m && cloB l listed && !listed.getD m false && ((preAt l m).all fun k => listed.getD k false) && Nat.beq listed.size l.length
theorem DAL.hoist [hnp : NP Q] {f : Nat} {listed : Array Bool} {A S M : List (List Nat)} {m t d : Nat} {n : Nat} {ts : List (Nat × V)} {obs : List Ob} {o : Oper} {x : V} (hc : hoB l A S M m listed = true) (ho : l[m]? = some o) (hs : src2 o.op = some t) (hdd : o.dst = some d) (hd : Nat.blt d n = true)
  (hx : ∀ a w H F,R0 w H F ⟨n,ts,obs⟩ a → ∃ u,(∀ w2,(execOp a.eval o).run P w2 = .ok (.value u) w2) ∧ RV w H F x u)
  (h : DAL P E l Q f (listed.setIfInBounds m true) ⟨n,(d,x) :: ts,obs⟩) : DAL P E l Q (f + 1) listed ⟨n,ts,obs⟩ := by
 unfold hoB at hc
 simp only [Bool.and_eq_true] at hc
 obtain ⟨⟨⟨⟨⟨c1,c2⟩,c3⟩,c4⟩,c5⟩,c6⟩ := hc
 have hk := drawB_spec c1
 obtain ⟨o',t0,d0,l1,l2,l3,l4,l5,l6⟩ := late2_spec c2
 rw [ho] at l1
 cases l1
 rw [hs] at l2
 cases l2
 rw [hdd] at l3
 cases l3
 have hsz : listed.size = l.length := Nat.eq_of_beq_eq_true c6
 have hcl : Clo l listed := fun i hi k hkk => by
  have hi' : i < l.length := by
   rw [← hsz]
   unfold Lst at hi
   refine Nat.lt_of_not_le fun hge => ?_
   rw [Array.getD_eq_getD_getElem?,Array.getElem?_eq_none hge] at hi
   cases hi
  have h1 := Q8 c3 hi'
  rw [show listed.getD i false = true from hi] at h1
  rw [Bool.not_true,Bool.false_or] at h1
  exact List.all_eq_true.1 h1 k hkk
 refine ⟨fun a w hR => ?_⟩
 obtain ⟨H,F,h1,h2⟩ := hR
 obtain ⟨u,hu,hv⟩ := hx a w H F h1
 refine Go.Proofs.YtcjclaoogdblbaaDoor.hoist hk ho (src2_exec hs) hdd l4 l6 (fun c a w ⟨st',hq,_⟩ => hnp.no c st' hq) f listed a w u hu hsz hcl (fun hh => ?_) (fun k hkk => List.all_eq_true.1 c5 k hkk) ?_
 ·rw [show listed.getD m false = true from hh] at c4
  cases c4
 ·refine h.h _ w ⟨H,F,?_,h2⟩
  exact h1.put (x := x) (some d) (by simpa [dstOk] using hd) hv
theorem DAL.fld [hnp : NP Q] {f : Nat} {listed : Array Bool} (A S M : List (List Nat)) (m t d : Nat) {n : Nat} {ts : List (Nat × V)} {obs : List Ob} {o : Oper} {ty : TypeId} {p q ff off sz : Nat} {pl : List (Nat × Nat)} [hpl : TyPl P ty pl] (hc : hoB l A S M m listed = true) (ho : l[m]? = some o) (hop : o.op = .fieldAddr ty (.tmp t) ff) (hdd : o.dst = some d) (hd : Nat.blt d n = true) (hy : look ts t = .o (.c (.ptr p q))) (hf : pl[ff]? = some (off,sz)) (hsz : sz ≠ 0) (h : DAL P E l Q f (listed.setIfInBounds m true) ⟨n,(d,.o (.c (.ptr p (q + off)))) :: ts,obs⟩) : DAL P E l Q (f + 1) listed ⟨n,ts,obs⟩ :=
 DAL.hoist hc ho (by rw [hop]; rfl) hdd hd (fun a w H F hR => by
  obtain ⟨g,tt,vs,e1,e2⟩ := hR.v1 (y := .tmp t) hy
  refine ⟨.pointer (some ⟨g,q + off,none⟩),fun w2 => ?_,g,tt,vs,e1,J⟩
  simp only [execOp,hop,e2,Sem.run_bind,run_fieldAt (P := P) (w := w2) ty g q ff hf hsz,Result.andThen_ok]
  rfl) h
theorem DAL.ext [hnp : NP Q] {f : Nat} {listed : Array Bool} (A S M : List (List Nat)) (m t d : Nat) {n : Nat} {ts : List (Nat × V)} {obs : List Ob} {o : Oper} {i : Nat} {xs : List V2} {y : V2} (hc : hoB l A S M m listed = true) (ho : l[m]? = some o) (hop : o.op = .extract (.tmp t) i) (hdd : o.dst = some d) (hd : Nat.blt d n = true) (hy : look ts t = .tu xs) (hi : xs[i]? = some y) (h : DAL P E l Q f (listed.setIfInBounds m true) ⟨n,(d,.o y) :: ts,obs⟩) : DAL P E l Q (f + 1) listed ⟨n,ts,obs⟩ :=
 DAL.hoist hc ho (by rw [hop]; rfl) hdd hd (fun a w H F hR => by
  have h1 := hR.tmp t
  rw [show look (St.tmps ⟨n,ts,obs⟩) t = .tu xs from hy] at h1
  obtain ⟨us,e,hl,hr⟩ := h1
  have hlt : i < us.length := by rw [hl]; exact Xd hi
  refine ⟨us[i],fun w2 => ?_,hr i y _ hi (List.getElem?_eq_getElem hlt)⟩
  have e2 : a.eval (.tmp t) = .tuple us.toArray := e
  simp [execOp,hop,Instr.extract,e2,hlt]) h
theorem DAL.have_ {f0 : Nat} {l0 : Array Bool} {s0 : St} (f : Nat) (listed : Array Bool) (st : St) (h : DAL P E l Q f listed st) (k : DAL P E l Q f listed st → DAL P E l Q f0 l0 s0) : DAL P E l Q f0 l0 s0 := k h
theorem DAL.join {f : Nat} {listed listed' : Array Bool} {st' : St} (he : listed = listed') (hw : Wk st st') (h : DAL P E l Q f listed' st') : DAL P E l Q f listed st := by subst he; exact DAL.weak hw h
theorem Y0 {f : Nat} {listed listed' : Array Bool} {st' : St} (hw : Wk st st') (h : DAL P E l Q f listed' st') (he : listed = listed' := by kernel_rfl) : DAL P E l Q f listed st := DAL.join he hw h
def ms (n m : Nat) : Array Bool := ((List.range n).map fun i => Nat.testBit m i).toArray
theorem A_seqW {x y : Code} {st : St} (st0 : St) (hx : AWP P E x (thn (fun st => Wk st st0) Q) st) (hy : AWP P E y Q st0) : AWP P E x (thn (AWP P E y Q) Q) st := AWP.mono (fun e st h => by
 have h1 := h.h
 refine ⟨?_⟩
 cases e with
 | normal => exact AWP.weak h1 hy
 | _ => exact h1) hx
theorem A_drawn {id : Nat} {f : Nat} (hm : P.follows .mixedOrders = true) (hf : f = l.length) (h : DAL P E l Q f (Array.replicate f false) st) : AWP P E (.region id l.toArray true) Q st := by
 refine ⟨fun a w ⟨H,F,hr,hsi⟩ => wp_region_any hm ?_⟩
 have hgr : Grow w H F { w with drawn := w.drawn + 1 } H F := ⟨(Below.refl _ _).drew,fun _ _ => rfl,fun _ h => h,fun _ h => .inl h,fun p hp b hb => by rw [hp] at hb; simp [Pc.fp] at hb,fun p i v h => ⟨p,h⟩⟩
 have hok : Ok { w with drawn := w.drawn + 1 } H F := ⟨fun p => Pc.frame (w := w) (fun _ _ => rfl) (hr.ok.says p),hr.ok.nodup,hr.ok.disj,hr.ok.free,hr.ok.flt⟩
 have hR : R0 { w with drawn := w.drawn + 1 } H F st a := ⟨hok,fun p => rb_grow hgr (fun h => h) (hr.obs p),fun d => hgr.rv (hr.tmp d),hr.size,hr.defers⟩
 have := h.h a { w with drawn := w.drawn + 1 } ⟨H,F,hR,hsi.grow hgr⟩
 subst hf
 simpa using this
end
end
section
open Go.RowKit

def comma : ByteArray := ⟨#[44]⟩
def colonB : ByteArray := ⟨#[58]⟩
def fmtAl (a : TAlarm) : ByteArray := itoaB a.Tick ++ colonB ++ joinB a.Parts comma
theorem itoaB_size {n : Int} (h : I64 n) : (itoaB n).size ≤ 21 := by
 obtain ⟨h1,h2⟩ := h
 rw [itoaB,Xa,Lib.itoa]
 split
 ·have := dec_len20 (m := n.natAbs) (by omega)
  simp only [List.length_cons]; omega
 ·have := dec_len20 (m := n.toNat) (by omega)
  omega
def fa1A : List (List Nat) := [[],[0],[0,1],[0,1,2],[],[4],[0,1,2,4,5],[0,1,2,3,4,5,6],[0,1,2,3,4,5,6,7]]
def fa1M : List (List Nat) := [[3,4,5,6,7,8,9,10,2],[3,4,5,6,7,8,9,10,2],[3,4,5,6,7,8,9,10,2],[3,4,5,6,7,8,9,10,2],[3,4,5,6,7,8,9,10,2],[3,4,5,6,7,8,9,10,2],[3,4,5,6,7,8,9,10,2],[3,4,5,6,7,8,9,10,2],[3,4,5,6,7,8,9,10,2]]
theorem I_FormatAlarmT (a : TAlarm) (hg : Enc.gd a) (hw : Enc.wt a ≤ 1048576) : ConP (TabW Tryd.prog) Tryd.prog 11 [ag a] [] (S (fmtAl a)) := by
 have hi := itoaB_size hg.1
 have hc := I_FormatIntT a.Tick hg.1
 have h0 : Enc.wt a = a.Parts.length + wts a.Parts := rfl
 have h1 := joinB_size a.Parts comma
 have h2 : comma.size = 1 := rfl
 have h3 : colonB.size = 1 := rfl
 rw [h2] at h1
 have hj := I_Join a.Parts comma (by omega) (by rw [joinB_len]; omega)
 have hs2 : (itoaB a.Tick ++ colonB).size = (itoaB a.Tick).size + 1 := by rw [Xb,h3]
 refine ConP.of Tryd.func11 J Tryd.ntmps11 J (fun E hE hT => ?_)
 refine zy (M1 (Qm J J J J) J J (z1 J (zz (Qd ?_))))
 refine A_seqW ⟨11,[(2,S (fmtAl a))],[.box ((Enc.e a).map (V1.rd []))]⟩ ?_ ?_
 ·
  refine A_drawn (f := 9) J J ?_
  refine DAL.have_ 0 (ms 9 511) ⟨11,[(1,.o (.c (.ptr 0 0))),(2,S (fmtAl a))],[.box ((Enc.e a).map (V1.rd []))]⟩ ?_ (fun hd0 => ?_)
  ·
   refine DAL.nil (by kernel_rfl) (Qv ?_)
   exact X7 [0]
  refine DAL.have_ 1 (ms 9 255) ⟨11,[(1,.o (.c (.ptr 0 0))),(3,.o (.c (.ptr 0 0))),(4,I a.Tick),(5,S (itoaB a.Tick)),(6,S (itoaB a.Tick ++ colonB)),(7,.o (.c (.ptr 0 1))),(8,L a.Parts),(9,S (joinB a.Parts comma)),(10,S (fmtAl a))],[.box ((Enc.e a).map (V1.rd []))]⟩ ?_ (fun hd1 => ?_)
  ·
   refine DAL.one 8 (by kernel_rfl) J (z1 J (zz ?_))
   exact Y0 (X7 [0]) hd0
  refine DAL.have_ 2 (ms 9 127) ⟨11,[(1,.o (.c (.ptr 0 0))),(3,.o (.c (.ptr 0 0))),(4,I a.Tick),(5,S (itoaB a.Tick)),(6,S (itoaB a.Tick ++ colonB)),(7,.o (.c (.ptr 0 1))),(8,L a.Parts),(9,S (joinB a.Parts comma))],[.box ((Enc.e a).map (V1.rd []))]⟩ ?_ (fun hd2 => ?_)
  ·
   refine DAL.one 7 (by kernel_rfl) J (zx (q_cat J J J J (by omega)) J (zz ?_))
   exact Y0 (X7 [0]) hd1
  refine DAL.have_ 3 (ms 9 119) ⟨11,[(1,.o (.c (.ptr 0 0))),(3,.o (.c (.ptr 0 0))),(4,I a.Tick),(5,S (itoaB a.Tick)),(7,.o (.c (.ptr 0 1))),(8,L a.Parts),(9,S (joinB a.Parts comma))],[.box ((Enc.e a).map (V1.rd []))]⟩ ?_ (fun hd3 => ?_)
  ·
   refine DAL.one 3 (by kernel_rfl) J ?_
   refine M0 (q_cat J J J J (by simp only [Xa,Xb,List.length_cons,List.length_nil,List.length_append]; omega)) J J ?_;refine zz ?_
   exact Y0 (X7 [0]) hd2
  refine DAL.have_ 3 (ms 9 63) ⟨11,[(1,.o (.c (.ptr 0 0))),(3,.o (.c (.ptr 0 0))),(4,I a.Tick),(5,S (itoaB a.Tick)),(6,S (itoaB a.Tick ++ colonB)),(7,.o (.c (.ptr 0 1))),(8,L a.Parts)],[.box ((Enc.e a).map (V1.rd []))]⟩ ?_ (fun hd4 => ?_)
  ·
   refine DAL.one 6 (by kernel_rfl) J ?_;refine zx (Qi J J (hj) J) J ?_;refine zz ?_
   exact Y0 (X7 [0]) hd2
  refine DAL.have_ 4 (ms 9 55) ⟨11,[(1,.o (.c (.ptr 0 0))),(3,.o (.c (.ptr 0 0))),(4,I a.Tick),(5,S (itoaB a.Tick)),(7,.o (.c (.ptr 0 1))),(8,L a.Parts)],[.box ((Enc.e a).map (V1.rd []))]⟩ ?_ (fun hd5 => ?_)
  ·
   refine DAL.two 3 6 (by kernel_rfl) J J ?_ ?_
   ·
    refine M0 (q_cat J J J J (by simp only [Xa,Xb,List.length_cons,List.length_nil,List.length_append]; omega)) J J ?_;refine zz ?_
    exact Y0 (X7 [0]) hd4
   ·
    refine zx (Qi J J (hj) J) J ?_;refine zz ?_
    exact Y0 (X7 [0]) hd3
  refine DAL.have_ 4 (ms 9 31) ⟨11,[(1,.o (.c (.ptr 0 0))),(3,.o (.c (.ptr 0 0))),(4,I a.Tick),(5,S (itoaB a.Tick)),(6,S (itoaB a.Tick ++ colonB)),(7,.o (.c (.ptr 0 1)))],[.box ((Enc.e a).map (V1.rd []))]⟩ ?_ (fun hd6 => ?_)
  ·
   refine DAL.one 5 (by kernel_rfl) J (z3 J (zz ?_))
   exact Y0 (X7 [0]) hd4
  refine DAL.have_ 5 (ms 9 51) ⟨11,[(1,.o (.c (.ptr 0 0))),(3,.o (.c (.ptr 0 0))),(4,I a.Tick),(7,.o (.c (.ptr 0 1))),(8,L a.Parts)],[.box ((Enc.e a).map (V1.rd []))]⟩ ?_ (fun hd7 => ?_)
  ·
   refine DAL.one 2 (by kernel_rfl) J ?_;refine M_callP tab_kept hE hT (hc) J J J J J J J ?_;refine zz ?_
   exact Y0 (X7 [0]) hd5
  refine DAL.have_ 5 (ms 9 23) ⟨11,[(1,.o (.c (.ptr 0 0))),(3,.o (.c (.ptr 0 0))),(4,I a.Tick),(5,S (itoaB a.Tick)),(7,.o (.c (.ptr 0 1)))],[.box ((Enc.e a).map (V1.rd []))]⟩ ?_ (fun hd8 => ?_)
  ·
   refine DAL.two 3 5 (by kernel_rfl) J J ?_ ?_
   ·
    refine M0 (q_cat J J J J (by simp only [Xa,Xb,List.length_cons,List.length_nil,List.length_append]; omega)) J J ?_;refine zz ?_
    exact Y0 (X7 [0]) hd6
   ·
    refine z3 J (zz ?_)
    exact Y0 (X7 [0]) hd5
  refine DAL.have_ 6 (ms 9 49) ⟨11,[(1,.o (.c (.ptr 0 0))),(3,.o (.c (.ptr 0 0))),(7,.o (.c (.ptr 0 1))),(8,L a.Parts)],[.box ((Enc.e a).map (V1.rd []))]⟩ ?_ (fun hd9 => ?_)
  ·
   refine DAL.one 1 (by kernel_rfl) J (z3 J (zz ?_))
   exact Y0 (X7 [0]) hd7
  refine DAL.have_ 6 (ms 9 19) ⟨11,[(1,.o (.c (.ptr 0 0))),(3,.o (.c (.ptr 0 0))),(4,I a.Tick),(7,.o (.c (.ptr 0 1)))],[.box ((Enc.e a).map (V1.rd []))]⟩ ?_ (fun hd10 => ?_)
  ·
   refine DAL.two 2 5 (by kernel_rfl) J J ?_ ?_
   ·
    refine M_callP tab_kept hE hT (hc) J J J J J J J ?_;refine zz ?_
    exact Y0 (X7 [0]) hd8
   ·
    refine z3 J (zz ?_)
    exact Y0 (X7 [0]) hd7
  refine DAL.have_ 7 (ms 9 17) ⟨11,[(1,.o (.c (.ptr 0 0))),(3,.o (.c (.ptr 0 0))),(7,.o (.c (.ptr 0 1)))],[.box ((Enc.e a).map (V1.rd []))]⟩ ?_ (fun hd11 => ?_)
  ·
   refine DAL.two 1 5 (by kernel_rfl) J J ?_ ?_
   ·
    refine z3 J (zz ?_)
    exact Y0 (X7 [0]) hd10
   ·
    refine z3 J (zz ?_)
    exact Y0 (X7 [0]) hd9
  refine DAL.fld fa1A [] fa1M 0 _ 3 (by kernel_rfl) J J J J J J (by decide) ?_;refine DAL.fld fa1A [] fa1M 4 _ 7 (by kernel_rfl) J J J J J J (by decide) ?_
  exact Y0 (X7 [0]) hd11
 refine Q2 (F_r ?_)
 exact Q6 J J (Q7 [] (by decide) J J J)
theorem S_FormatAlarm (a : TAlarm) (hg : Enc.gd a) (hw : Enc.wt a ≤ 1048576) : Con Tryd.prog 9 [] [ag a] [] (S (fmtAl a)) := by
 have hi := itoaB_size hg.1
 have hc := S_FormatIntT a.Tick hg.1
 have h0 : Enc.wt a = a.Parts.length + wts a.Parts := rfl
 have hlx := els_len a.Parts
 have h2 : comma.size = 1 := rfl
 have h3 : colonB.size = 1 := rfl
 have hs2 : (itoaB a.Tick ++ colonB).size = (itoaB a.Tick).size + 1 := by rw [Xb,h3]
 rw [show fmtAl a = itoaB a.Tick ++ colonB ++ joinG a.Parts comma a.Parts.length by rw [fmtAl,joinG_all]]
 have hz : itoaB a.Tick ++ colonB ++ joinG a.Parts comma 0 = itoaB a.Tick ++ colonB := by rw [joinG]; exact ByteArray.append_empty
 obtain ⟨p,hp⟩ : ∃ p,p = itoaB a.Tick ++ colonB := ⟨_,rfl⟩
 refine Con.of Tryd.func9 J Tryd.ntmps9 J (fun E => ?_)
 refine zy (M1 (Qm J J J J) J J (z1 J (zz (zy (z2 J J J (z3 J ?_))))));refine zx (Qi J J (hc) J) J ?_
 refine M0 (q_cat J J J J (by simp only [Xa,Xb,List.length_cons,List.length_nil,List.length_append]; omega)) J J ?_
 refine z1 J (zz (Qd (zy (z1 J (zz (Qj ?_))))))
 rw [← hp] at hz hs2 ⊢
 refine A_lq (fun m st => ∃ k : Nat,k + m = a.Parts.length ∧ (True) ∧ st = (⟨_,[(1,.o (.c (.ptr 0 0))),(3,S (p ++ joinG a.Parts comma k)),(4,I k)],[.box ((Enc.e a).map (V1.rd []))]⟩ : St)) (a.Parts.length) ⟨(fun k : Nat => (⟨_,[(1,.o (.c (.ptr 0 0))),(3,S (p ++ joinG a.Parts comma k)),(4,I k)],[.box ((Enc.e a).map (V1.rd []))]⟩ : St)) 0,⟨0,by omega,trivial,J⟩,W_go [0] (by decide) J (by kernel_rfl) (.c J (.cons (S_eq (by rw [hz,hp]; rfl)) (.c J (.nil))))⟩ ?_
 rintro m_A _ ⟨k,hk_A,hp_A,rfl⟩
 by_cases h4 : k < a.Parts.length
 ·have hb : decide ((k : Int) < (els a.Parts).length) = true := decide_eq_true (by omega)
  have hat := els_at h4
  have hsz := joinG_size a.Parts comma k (by omega)
  have hwk := wts_take a.Parts k h4
  have hwl := wts_take_le a.Parts (k + 1)
  have hws : Enc.wt a.Parts[k] = a.Parts[k].size := rfl
  rw [h2] at hsz
  have hpg := Xb p (joinG a.Parts comma k)
  have hd : a.Parts.getD k ⟨#[]⟩ = a.Parts[k] := by simp [List.getD_eq_getElem?_getD,h4]
  by_cases hk : 0 < k
  ·have hb2 : decide ((0 : Int) < k) = true := decide_eq_true (by omega)
   have hstep : p ++ joinG a.Parts comma k ++ comma ++ a.Parts[k] = p ++ joinG a.Parts comma (k + 1) := by rw [joinG,if_pos hk,hd,ByteArray.append_assoc,ByteArray.append_assoc,ByteArray.append_assoc]
   have hpc := Xb (p ++ joinG a.Parts comma k) comma
   refine Qd (zy (z0 J (z2 J J J (z3 J (zx (q_len J J J) J (z9a J (by assumption) (zz (Ql J (Qh ?_)))))))));refine Qv (Qd (Qj (Qd (zy (z0 J (z9c J (by assumption) (zz (Ql J (Qc ?_)))))))));refine z0 J ?_
   refine M0 (q_cat J J J J (by simp only [Xa,Xb,List.length_cons,List.length_nil,List.length_append]; omega)) J J ?_
   refine z1 J (zz (Qc (z0 J (z2 J J J (z3 J (z0 J (zx (Qx J J J J (by omega) (by assumption) J) J (zx (q_lr1 J J J J) J ?_))))))))
   refine M0 (q_cat J J J J (by simp only [Xa,Xb,List.length_cons,List.length_nil,List.length_append]; omega)) J J ?_
   refine z1 J (Qe (Qw (Qv (Qc (z0 J (z7 J (by omega) (z1 J (zz ?_))))))))
   exact ⟨a.Parts.length - (k + 1),by omega,(fun k : Nat => (⟨_,[(1,.o (.c (.ptr 0 0))),(3,S (p ++ joinG a.Parts comma k)),(4,I k)],[.box ((Enc.e a).map (V1.rd []))]⟩ : St)) (k + 1),⟨k + 1,by omega,trivial,J⟩,W_go [0] (by decide) J (by kernel_rfl) (.c J (.cons (S_eq hstep) (.c J (.nil))))⟩
  ·have hb2 : decide ((0 : Int) < k) = false := decide_eq_false (by omega)
   have hstep : p ++ joinG a.Parts comma k ++ a.Parts[k] = p ++ joinG a.Parts comma (k + 1) := by rw [joinG,if_neg hk,hd,ByteArray.append_assoc]
   refine Qd (zy (z0 J (z2 J J J (z3 J (zx (q_len J J J) J (z9a J (by assumption) (zz (Ql J (Qh ?_)))))))));refine Qv (Qd (Qj (Qd (zy (z0 J (z9c J (by assumption) (zz (Qk J (Qh ?_)))))))));refine Qv (Qc (z0 J (z2 J J J (z3 J (z0 J (zx (Qx J J J J (by omega) (by assumption) J) J (zx (q_lr1 J J J J) J (zx (q_cat J J J J (by omega)) J (z1 J (Qe (Qw ?_)))))))))));refine Qv (Qc (z0 J (z7 J (by omega) (z1 J (zz ?_)))))
   exact ⟨a.Parts.length - (k + 1),by omega,(fun k : Nat => (⟨_,[(1,.o (.c (.ptr 0 0))),(3,S (p ++ joinG a.Parts comma k)),(4,I k)],[.box ((Enc.e a).map (V1.rd []))]⟩ : St)) (k + 1),⟨k + 1,by omega,trivial,J⟩,W_go [0] (by decide) J (by kernel_rfl) (.c J (.cons (S_eq hstep) (.c J (.nil))))⟩
 ·have hb : decide ((k : Int) < (els a.Parts).length) = false := decide_eq_false (by omega)
  have hk : k = a.Parts.length := by omega
  subst hk
  refine Qd (zy (z0 J (z2 J J J (z3 J (zx (q_len J J J) J (z9a J (by assumption) (zz (Qk J (Q1 ?_)))))))));refine T_x (T_x (B_xs (Qv (zy (z0 J (z1 J (zz (Q2 (F_r ?_)))))))))
  exact Q6 J J (Q7 [] (by decide) J J J)
end
section
open Go.RowKit

theorem law_FormatAlarm (a : TAlarm) (hg : Enc.gd a) : ConP (TabW Tryd.prog) Tryd.prog 3 [ag a] [] (B true) := by
 have hz := sz_Alarm a 1048576 hg (by omega) (by omega)
 by_cases n1 : (1048576 : Int) < Enc.wt a
 ·rw [szr_neg n1] at hz
  refine ConP.of Tryd.func3 J Tryd.ntmps3 J (fun E hE hT => ?_)
  refine zy (M1 (Qm J J J J) J J (z1 J (zz (zy (z1 J (zz (Qd ?_)))))));refine Qc (z4 J J J (z0 J ?_));refine zx (Qi J J (hz) J) J ?_;refine z1 J (zz (Qd (zy (z0 J ?_))));refine zx (Qn (b := true) J J J J (by decide)) J ?_;refine zz (Ql J (zy (z1 J (zz (Q2 (T_r (F_r ?_)))))))
  exact Q6 J J (Q7 [] (by decide) J J J)
 rw [szr_pos (by omega)] at hz
 have hb1 : decide ((1048576 : Int) - Enc.wt a < 0) = false := decide_eq_false (by omega)
 have ht := to_Alarm a (by omega)
 have hs := S_FormatAlarm a hg (by omega)
 have hi := I_FormatAlarmT a hg (by omega)
 have hq := eq_Alarm a a hg
 rw [decide_eq_true rfl] at hq
 have g0 : decide (fmtAl a ≠ fmtAl a) = false := by simp
 refine ConP.of Tryd.func3 J Tryd.ntmps3 J (fun E hE hT => ?_)
 refine zy (M1 (Qm J J J J) J J (z1 J (zz (zy (z1 J (zz (Qd ?_)))))));refine Qc (z4 J J J (z0 J ?_));refine zx (Qi J J (hz) J) J ?_;refine z1 J (zz (Qd (zy (z0 J (z9a J (by assumption) (zz (Qk J (Qh ?_))))))));refine Qv (zy (z4 J J J ?_));refine M1 (q_call J J (ht) J J J) J J ?_;refine zx (Qi J J (hs) J) J ?_;refine z1 J (zz (zy (z4 J J J ?_)));refine M1 (q_call J J (ht) J J J) J J ?_;refine M1 (Qs J J J) J J ?_;refine Qu J J J J J J J J J (zz (zy (z4 J J J (M_callP tab_kept hE hT (hi) J J J J J J J (z1 J (zz (Qd (Qd ?_))))))));refine Qc (z0 J (z0 J (zx (q_sneqK J J J J (by assumption)) J (zz (Qk J (Qh (Qv (Qd (Qd ?_)))))))))
 refine AWP.pre (st' := (⟨_,[(1,.o (.c (.ptr 0 0))),(5,.o (.c (.ptr 2 0)))],[.box ((Enc.e a).map (V1.rd [])),.row 1 (els a.Parts),.box [.rd [] (.v (.int .i64 a.Tick)),.ref 1]]⟩ : St)) ?_ (X7 [0,2,3])
 refine A_draw [[],[],[1],[0,1,2],(u9 4)] [[],[],[23],[22,23,24],[22,23,24,25]] [[23,24],[22],[22],[],[]] J (Xj (Qp J J J J J J) J (Xj (Qp J J J J J J) J ?_));refine Xj (q_call J J (ht) J J J) J ?_;refine Xj (Qi J J (hq) J) J ?_;refine Xj (Qz J J J) J (Xi (zz (Qk J (Qh (Qv (zy (z1 J (zz ?_))))))));refine Q2 (F_r ?_)
 exact Q6 J J (Q7 [] (by decide) J J J)
end
end Go.Proofs.YtcjclaoogdblbaaDoor
