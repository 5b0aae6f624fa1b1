/-
  Parts of the proof (rules, data, and what functions of the program and of the reference return), among them: Steering and moving a body, in the program and in the reference; Moving a body, in the program and in the reference.
  Conditions: those that each theorem names.
-/
import Derived.Test.YtcjclaoogdblbaaDoorDDPtRowk11
import Derived.Test.YtcjclaoogdblbaaDoorDDPtRowk17
import Derived.Test.YtcjclaoogdblbaaDoorDDPtRowk18
set_option linter.unusedSimpArgs false
set_option linter.unusedVariables false
set_option maxRecDepth 8000
set_option maxHeartbeats 8000000
namespace Go.Proofs.YtcjclaoogdblbaaDoor
section
open Go.RowKit

def nextR (s : Int) : Int := if 0 ≤ s ∧ s ≤ 65535 then (s * 25173 + 13849) % 65536 else 0
def belowR (s n : Int) : Int := nextR s / 16 % n
theorem Yn (s : Int) : 0 ≤ nextR s ∧ nextR s ≤ 65535 := by
 unfold nextR
 split <;> omega
def pressed (i k : Int) : Bool := decide (((i.toNat &&& k.toNat : Nat) : Int) ≠ 0)
noncomputable def steer (l : TLevel) (b : TBody) (i : Int) : TBody × Bool :=
 (⟨b.Kind,b.Owner,b.X,b.Y,
  if (pressed i 1 && !pressed i 2) = true then -3 else if (pressed i 2 && !pressed i 1) = true then 3 else 0,
  if (pressed i 4 && solidM l b.X (b.Y + 1) 12) = true then -9 else min (b.VY + 1) 8,
  if (pressed i 1 && !pressed i 2) = true then -1 else if (pressed i 2 && !pressed i 1) = true then 1 else b.Aim,
  b.Life,
  if (pressed i 8 && decide ((if 0 < b.Timer then b.Timer - 1 else b.Timer) = 0)) = true then 12 else (if 0 < b.Timer then b.Timer - 1 else b.Timer)⟩,
  pressed i 8 && decide ((if 0 < b.Timer then b.Timer - 1 else b.Timer) = 0))
def slide (hit : Int → Bool) (step : Int) : Nat → Int → Int × Bool
 | 0,x => (x,false)
 | n + 1,x => if hit (x + step) = true then (x,true) else slide hit step n (x + step)
theorem slide_hit {hit : Int → Bool} {step x : Int} {n : Nat} (h : hit (x + step) = true) : slide hit step (n + 1) x = (x,true) := by rw [slide,if_pos h]
theorem slide_go {hit : Int → Bool} {step x : Int} {n : Nat} (h : hit (x + step) = false) : slide hit step (n + 1) x = slide hit step n (x + step) := by rw [slide,if_neg (by rw [h]; simp)]
def dirOf (v : Int) : Int := if v < 0 then -1 else 1
noncomputable def moveX (l : TLevel) (b : TBody) : Int × Bool := slide (fun x => solidM l x b.Y (sizeOf b.Kind)) (dirOf b.VX) b.VX.natAbs b.X
noncomputable def moveY (l : TLevel) (b : TBody) : Int × Bool := slide (fun y => solidM l (moveX l b).1 y (sizeOf b.Kind)) (dirOf b.VY) b.VY.natAbs b.Y
noncomputable def moveM (l : TLevel) (b : TBody) : TBody × Bool :=
 (⟨b.Kind,b.Owner,(moveX l b).1,(moveY l b).1,if (moveX l b).2 = true then 0 else b.VX,if (moveY l b).2 = true then 0 else b.VY,b.Aim,b.Life,b.Timer⟩,(moveX l b).2 || (moveY l b).2)
def shotOf (b : TBody) : TBody := ⟨1,b.Owner,b.X + 4,b.Y + 4,6 * b.Aim,0,0,0,25⟩
def meetM (a b : TBody) : Bool :=
 ((decide (a.X < b.X + sizeOf b.Kind) && decide (b.X < a.X + sizeOf a.Kind)) && decide (a.Y < b.Y + sizeOf b.Kind)) && decide (b.Y < a.Y + sizeOf a.Kind)
structure Placed (b : TBody) : Prop where
 k : 0 ≤ b.Kind ∧ b.Kind ≤ 2
 x : 0 ≤ b.X ∧ b.X ≤ 1000
 y : 0 ≤ b.Y ∧ b.Y ≤ 1000
theorem size_pos {k : Int} (h : 0 ≤ k ∧ k ≤ 2) : 4 ≤ sizeOf k ∧ sizeOf k ≤ 12 := by
 unfold sizeOf
 split
 ·omega
 ·split
  ·omega
  ·split <;> omega
def colSp (row : ByteArray) (r : Nat) : Nat → List (List Int)
 | 0 => []
 | c + 1 => if byteAt row c = 111 then colSp row r c ++ [[(c : Int) * 16 + 4,(r : Int) * 16 + 4]] else colSp row r c
def rowSp (rows : List ByteArray) : Nat → List (List Int)
 | 0 => []
 | r + 1 => match rows[r]? with
  | none => rowSp rows r
  | some row => rowSp rows r ++ colSp row r row.size
end
section
open Go.RowKit

section
variable {P : Program} {E : Env} {ops : Array Oper} {o : Oper} {st : St} {n : Nat} {y : Operand}
theorem Qz {p i : Nat} (ho : o.op = .nilCheck y) (hg : o.guard = none) (hy : st.ev y = .o (.c (.ptr p i))) : Qt P ops o st (.o (.c (.ptr p i))) [] n :=
 .pure hg fun a w H F hr => by
  obtain ⟨g,tt,vs,e1,e2⟩ := hr.v1 hy
  exact ⟨.pointer (some ⟨g,i,none⟩),by simp [execOp,ho,e2],g,tt,vs,e1,J⟩
end
structure Mid (st' : St) (e : Exit) (st : St) : Prop where
 h : e = .normal ∧ Wk st st'
section
variable {P : Program} {E : Env} {st st' : St}
theorem Mid.n (h : Wk st st') : Mid st' .normal st := ⟨rfl,h⟩
theorem A_join {c d : Code} {Q Q' : Exit → St → Prop} (st' : St) (h1 : AWP P E c (Mid st') st) (h2 : AWP P E d Q' st') : AWP P E c (thn (AWP P E d Q') Q) st :=
 AWP.mono (fun e s h => by obtain ⟨rfl,hw⟩ := h.h; exact ⟨AWP.weak hw h2⟩) h1
end
end
section
open Go.RowKit

theorem openF_35 {rows : List ByteArray} {row : ByteArray} {r c : Nat} (h : byteAt row c = 35) : openF rows row r c = openF rows row r (c + 1) := by
 cases ho : openF rows row r c with
 | some x => rw [openF_keep ho]
 | none => rw [openF_step ho,if_pos h]
theorem S_StartOf (l : TLevel) (p : Int) (hg : Enc.gd l) (hl : levelOk l = true) (hp : 0 ≤ p ∧ p ≤ 3) : Con Tryd.prog 125 [] [ag l,ai p] [] (.tu [.c (jn (spX (startT l p))),.c (jn (spY (startT l p)))]) := by
 have hc := S_LevelOk l hg
 rw [hl] at hc
 have hlr := X7 l.Rows
 have hx : l.Rows.length ≤ 9223372036854775807 := hg.1
 obtain ⟨l3,l12,w,w4,w20,hw⟩ := Yj hl
 have hci := S_in p 0 3
 rw [Yi.2 hp] at hci
 refine Con.of Tryd.func125 J Tryd.ntmps125 J (fun E => ?_)
 refine zy (M1 (Qq J J J J) J J (z1 J (z1 J (zz (zy (z1 J (zz ?_)))))));refine zy (z1 J (zz (Qd (zy (z4 J J J ?_)))));refine zx (Qj J J (hc) J) J ?_;refine zn J (z0 J (z5 J (z0 J (z5 J ?_))));refine zx (Qj J J (hci) J) J ?_;refine z5 J (zn J (zpF J (zz (Ql J (Qh (Q0 (Qd (zy (z1 J ?_)))))))));refine zz (Qk ?_);refine Xi (fun m st => ∃ r : Nat,r + m = l.Rows.length ∧ (tileF (isDig p) l.Rows r = none) ∧ st = (⟨_,[(1,I p),(2,.o (.c (.ptr 0 0))),(6,I (spX (tileF isOpen l.Rows r))),(7,I (spY (tileF isOpen l.Rows r))),(8,I r)],[.box ((Enc.e l).map (V1.rd []))]⟩ : St)) (l.Rows.length) ⟨_,⟨0,by omega,J,J⟩,Xt [0] (by kernel_rfl)⟩ ?_
 rintro m_A _ ⟨r,hk_A,hp_A,rfl⟩
 refine Qd (zy (z0 J (z2 J J J (z3 J (zx (Y2 J J J) J (zx (Y7 J J J J) J (zz ?_)))))))
 refine Xb J (fun h => ?_) (fun h => ?_)
 ·have h3 : r < l.Rows.length := by have := of_decide_eq_true h; omega
  have hat := X6 h3
  have hwr := hw r h3
  have hrow := List.getElem?_eq_getElem h3
  generalize l.Rows[r] = row at hat hwr hrow
  refine Qh (Q0 (Qd (Qk (zy (z1 J (zz (Qk ?_)))))));refine Xi (fun m st => ∃ c : Nat,c + m = row.size ∧ (colF (isDig p) row c = none) ∧ st = (⟨_,[(1,I p),(2,.o (.c (.ptr 0 0))),(6,I (spX (openF l.Rows row r c))),(7,I (spY (openF l.Rows row r c))),(8,I r),(9,I c)],[.box ((Enc.e l).map (V1.rd []))]⟩ : St)) (row.size) ⟨(fun c : Nat => (⟨_,[(1,I p),(2,.o (.c (.ptr 0 0))),(6,I (spX (openF l.Rows row r c))),(7,I (spY (openF l.Rows row r c))),(8,I r),(9,I c)],[.box ((Enc.e l).map (V1.rd []))]⟩ : St)) 0,⟨0,by omega,J,J⟩,Xu [0] (by decide) J (by kernel_rfl) (.c J (.c J (.cons (Xo (by rw [openF_zero])) (.cons (Xo (by rw [openF_zero])) (.c J (.c J (.nil)))))))⟩ ?_
  rintro m_D _ ⟨c,hk_D,hp_D,rfl⟩
  refine Qd (zy (z0 J (z2 J J J (z3 J (z0 J (zx (Q2 J J J J (by omega) (by assumption) J) J (zx (Y6 J J J J) J (zx (Y4 J J J) J (zx (Y7 J J J J) J (Qe ?_))))))))));refine Q0 ?_
  refine Xb J (fun h4 => ?_) (fun h4 => ?_)
  ·have h4 : c < row.size := by have := of_decide_eq_true h4; omega
   have hbt := X0 row c
   have hbt2 := X0 row (c : Int).toNat
   by_cases hd : byteAt row c = 49 + p
   ·have hb : decide (byteAt row (c : Int).toNat - 49 = p) = true := decide_eq_true (by show byteAt row c - 49 = p; omega)
    have hb3 : decide (byteAt row (c : Int).toNat ≠ 35) = true := decide_eq_true (by show byteAt row c ≠ 35; omega)
    rw [start_dig hp_A hrow hp_D h4 hd]
    clear hd
    cases ho : openF l.Rows row r c with
    | some x =>
     have hlt : decide (spX (openF l.Rows row r c) < 0) = false := decide_eq_false (by rw [spX_neg,ho]; simp)
     rw [ho] at hlt
     refine Qh (Q0 (Qd (Qk (zy (z2 J J J (z3 J (z0 J (zx (Q2 J J J J (by omega) (by assumption) J) J (zx (Y6 J J J J) J (z0 J ?_))))))))));refine zx (q_byte J J J J (by omega)) J (z1 J (zz (Qd (zy (z0 J (z9f J (by assumption) (z0 J (z5 J (z0 J ?_)))))))));refine z5 J (z9a J (by assumption) (zpT J (z0 J (z5 J (z0 J (z5 J (zx (Yw J J J J (Zm (by omega))) J (z5 J (z8 J (by omega) (z5 J (z0 J ?_)))))))))));refine z5 J (z9e J (by assumption) (zpF J (zz (Qm J (zy (z0 J (zx (Y8 J J J J (by omega)) J (z7 J (by omega) (z1 J ?_)))))))));refine zz (Qc (z0 J (zx (Y8 J J J J (by omega)) J (z7 J (by omega) (z1 J (zz (zy (z0 J ?_))))))));refine zx (Yw J J J J (Zm (by omega))) J (z8 J (by omega) (z0 J (z9e J (by assumption) (zz (Qm J (zy (z0 J (z0 J (z1 J ?_)))))))));refine z1 J (zz (Xa (B_r (T_r (T_r (B_r (B_r (T_r (T_r (B_r ?_))))))))));refine T_r (F_r ?_)
     exact E_tmp2 J J J (Xs [] (by decide) J J J)
    | none =>
     have hlt : decide (spX none < 0) = true := rfl
     refine Qh (Q0 (Qd (Qk (zy (z2 J J J (z3 J (z0 J (zx (Q2 J J J J (by omega) (by assumption) J) J (zx (Y6 J J J J) J (z0 J ?_))))))))));refine zx (q_byte J J J J (by omega)) J (z1 J (zz (Qd (zy (z0 J (z9f J (by assumption) (z0 J (z5 J (z0 J ?_)))))))));refine z5 J (z9a J (by assumption) (zpT J (z0 J (z6 J (z6 J (z6 J (z6 J (z6 J (zpT J (zz ?_))))))))));refine Qm J (zy (z0 J (zx (Y8 J J J J (by omega)) J (z7 J (by omega) (z1 J (zz (Qc (z0 J (zx (Y8 J J J J (by omega)) J ?_)))))))));refine z7 J (by omega) (z1 J (zz (zy (z0 J (zx (Yw J J J J (Zm (by omega))) J (z8 J (by omega) (z0 J (z9e J (by assumption) (Qe ?_)))))))));refine Q0 (Qm J (zy (z0 J (z0 J (z1 J (z1 J (zz (Xa (B_r ?_)))))))));refine T_r (T_r (B_r (B_r (T_r (T_r (B_r (T_r (F_r ?_))))))))
     exact E_tmp2 J J J (Xs [] (by decide) J J J)
   have hb : decide (byteAt row (c : Int).toNat - 49 = p) = false := decide_eq_false (by show ¬ byteAt row c - 49 = p; omega)
   have hnd := colF_step hp_D (show isDig p (byteAt row c) = false from decide_eq_false hd)
   by_cases h35 : byteAt row c = 35
   ·have hb3 : decide (byteAt row (c : Int).toNat ≠ 35) = false := decide_eq_false (fun q => q h35)
    have hnx : spX (openF l.Rows row r c) = spX (openF l.Rows row r (c + 1)) := by rw [openF_35 h35]
    have hny : spY (openF l.Rows row r c) = spY (openF l.Rows row r (c + 1)) := by rw [openF_35 h35]
    clear h35
    refine Qh (Q0 (Qd (Qk (zy (z2 J J J (z3 J (z0 J (zx (Q2 J J J J (by omega) (by assumption) J) J (zx (Y6 J J J J) J (z0 J ?_))))))))));refine zx (q_byte J J J J (by omega)) J (z1 J (zz (Qd (zy (z0 J (z9f J (by assumption) (z0 J (z6 J (z6 J ?_)))))))));refine zpF J (z0 J (z5 J (z0 J (z5 J (zx (Yw J J J J (Zm (by omega))) J (z5 J (z8 J (by omega) (z5 J (z0 J (z5 J (z9e J (by assumption) ?_)))))))))));refine zpF J (zz (Ql J (Qh (Q0 (zy (z0 J (zx (Yw J J J J (Zm (by omega))) J (z8 J (by omega) (z0 J ?_)))))))));refine z9e J (by assumption) (zz (Ql J (Qh (Q1 (Q0 (Qc (z0 J (z7 J (by omega) (z1 J (Qe ?_))))))))));refine Q0 ?_
    exact ⟨row.size - (c + 1),by omega,(fun c : Nat => (⟨_,[(1,I p),(2,.o (.c (.ptr 0 0))),(6,I (spX (openF l.Rows row r c))),(7,I (spY (openF l.Rows row r c))),(8,I r),(9,I c)],[.box ((Enc.e l).map (V1.rd []))]⟩ : St)) (c + 1),⟨c + 1,by omega,hnd,J⟩,Xu [0] (by decide) J (by kernel_rfl) (.c J (.c J (.cons (Xo hnx) (.cons (Xo hny) (.c J (.c J (.nil)))))))⟩
   have hb3 : decide (byteAt row (c : Int).toNat ≠ 35) = true := decide_eq_true h35
   have h35' := h35
   cases ho : openF l.Rows row r c with
   | some x =>
    have hlt : decide (spX (openF l.Rows row r c) < 0) = false := decide_eq_false (by rw [spX_neg,ho]; simp)
    have hnx : spX (some x) = spX (openF l.Rows row r (c + 1)) := by rw [openF_keep ho]
    have hny : spY (some x) = spY (openF l.Rows row r (c + 1)) := by rw [openF_keep ho]
    rw [ho] at hlt
    refine Qh (Q0 (Qd (Qk (zy (z2 J J J (z3 J (z0 J (zx (Q2 J J J J (by omega) (by assumption) J) J (zx (Y6 J J J J) J (z0 J ?_))))))))));refine zx (q_byte J J J J (by omega)) J (z1 J (zz (Qd (zy (z0 J (z9f J (by assumption) (z0 J (z5 J (z0 J ?_)))))))));refine z5 J (z9a J (by assumption) (zpT J (z0 J (z5 J (z0 J (z5 J (zx (Yw J J J J (Zm (by omega))) J (z5 J (z8 J (by omega) (z5 J (z0 J ?_)))))))))));refine z5 J (z9e J (by assumption) (zpF J (zz (Ql J (Qh (Q0 (zy (z0 J (zx (Yw J J J J (Zm (by omega))) J ?_)))))))));refine z8 J (by omega) (z0 J (z9e J (by assumption) (zz (Ql J (Qh (Q1 (Q0 (Qc (z0 J (z7 J (by omega) ?_))))))))));refine z1 J (zz ?_)
    exact ⟨row.size - (c + 1),by omega,(fun c : Nat => (⟨_,[(1,I p),(2,.o (.c (.ptr 0 0))),(6,I (spX (openF l.Rows row r c))),(7,I (spY (openF l.Rows row r c))),(8,I r),(9,I c)],[.box ((Enc.e l).map (V1.rd []))]⟩ : St)) (c + 1),⟨c + 1,by omega,hnd,J⟩,Xu [0] (by decide) J (by kernel_rfl) (.c J (.c J (.cons (Xo hnx) (.cons (Xo hny) (.c J (.c J (.nil)))))))⟩
   | none =>
    have hlt : decide (spX none < 0) = true := rfl
    have hnx : 16 * (c : Int) + 2 = spX (openF l.Rows row r (c + 1)) := by rw [openF_step ho,if_neg h35']; rfl
    have hny : 16 * (r : Int) + 2 = spY (openF l.Rows row r (c + 1)) := by rw [openF_step ho,if_neg h35']; rfl
    refine Qh (Q0 (Qd (Qk (zy (z2 J J J (z3 J (z0 J (zx (Q2 J J J J (by omega) (by assumption) J) J (zx (Y6 J J J J) J (z0 J ?_))))))))));refine zx (q_byte J J J J (by omega)) J (z1 J (zz (Qd (zy (z0 J (z9f J (by assumption) (z0 J (z5 J (z0 J ?_)))))))));refine z5 J (z9a J (by assumption) (zpT J (z0 J (z6 J (z6 J (z6 J (z6 J (z6 J (zpT J (zz ?_))))))))));refine Qm J (zy (z0 J (zx (Y8 J J J J (by omega)) J (z7 J (by omega) (z1 J (zz (Qc (z0 J (zx (Y8 J J J J (by omega)) J ?_)))))))));refine z7 J (by omega) (z1 J (zz (zy (z0 J (zx (Yw J J J J (Zm (by omega))) J (z8 J (by omega) (z0 J (z9e J (by assumption) (Qe ?_)))))))));refine Q0 (Ql J (Qh (Q1 (Q0 (Qc (z0 J (z7 J (by omega) (z1 J (zz ?_)))))))))
    exact ⟨row.size - (c + 1),by omega,(fun c : Nat => (⟨_,[(1,I p),(2,.o (.c (.ptr 0 0))),(6,I (spX (openF l.Rows row r c))),(7,I (spY (openF l.Rows row r c))),(8,I r),(9,I c)],[.box ((Enc.e l).map (V1.rd []))]⟩ : St)) (c + 1),⟨c + 1,by omega,hnd,J⟩,Xu [0] (by decide) J (by kernel_rfl) (.c J (.c J (.cons (Xo hnx) (.cons (Xo hny) (.c J (.c J (.nil)))))))⟩
  ·have h4 : c = row.size := by have := of_decide_eq_false h4; omega
   subst h4
   refine Q9 (T_x (T_x (Xj (Q1 (Q0 (Qc (z0 J (z7 J (by omega) (z1 J (zz ?_))))))))))
   exact ⟨l.Rows.length - (r + 1),by omega,(fun r : Nat => (⟨_,[(1,I p),(2,.o (.c (.ptr 0 0))),(6,I (spX (tileF isOpen l.Rows r))),(7,I (spY (tileF isOpen l.Rows r))),(8,I r)],[.box ((Enc.e l).map (V1.rd []))]⟩ : St)) (r + 1),⟨r + 1,by omega,tileF_step hp_A hrow hp_D,J⟩,Xu [0] (by decide) J (by kernel_rfl) (.c J (.c J (.cons (Xo (by rw [← openF_end hrow])) (.cons (Xo (by rw [← openF_end hrow])) (.c J (.nil))))))⟩
 ·have h3 : r = l.Rows.length := by have := of_decide_eq_false h; omega
  rw [start_open hp_A h3]
  refine Q9 (T_x (T_x (Xj (Q0 (zy (z0 J (z0 J (z1 J (z1 J (Qe ?_))))))))));refine Q0 (Xa (F_r ?_))
  exact E_tmp2 J J J (Xs [] (by decide) J J J)
end
section
open Go.RowKit

theorem S_fresh (l : TLevel) (p : Int) (hg : Enc.gd l) (hl : levelOk l = true) (hp : 0 ≤ p ∧ p ≤ 3) : Con Tryd.prog 104 [] [ag l,ai p] [] (.o (.ag ((Enc.e (fresh l p)).map (V1.rd [])))) := by
 have hc := S_StartOf l p hg hl hp
 refine Con.of Tryd.func104 J Tryd.ntmps104 J (fun E => ?_)
 refine zy (M1 (Qq J J J J) J J (M1 (Qx J J J) J J (zz (zy (z4 J J J (z0 J ?_))))));refine M1 (Yv J J (hc) J J J) J J ?_;refine zx (Q8 J J J) J (ze J (ze J (z1 J (z1 J (zz (zy (z0 J (z0 J (z0 J ?_)))))))));refine zx (q_build J J J J J) J ?_;refine Qy J J J J J J J J J (zz (Xa (F_r ?_)))
 exact E_cell J J J J (Xs [] (by decide) J J J)
theorem row6w {a b c d e : Ob} {k : Nat} {x y : List (List T)} (h : x = y) : [a,b,c,d,e,Ob.row k x] = [a,b,c,d,e,Ob.row k y] := by rw [h]
def freshs (l : TLevel) (k : Nat) : List TBody := (List.range k).map fun (k : Nat) => fresh l (k : Int)
theorem freshs_succ (l : TLevel) (k : Nat) : freshs l (k + 1) = freshs l k ++ [fresh l k] := by simp [freshs,List.range_succ]
theorem freshs_len (l : TLevel) (k : Nat) : (freshs l k).length = k := by simp [freshs]
theorem newWorld_gd {l : TLevel} {n : Nat} {seed : Int} (hg : Enc.gd l) (hl : levelOk l = true) (hn : 1 ≤ n ∧ n ≤ 4) (hs : inR seed 0 65535 = true) : Enc.gd (newWorld l n seed) := by
 have h0 : I64 0 := ⟨by decide,by decide⟩
 have hsd := Yi.1 hs
 refine ⟨hg,h0,⟨by show (-9223372036854775808 : Int) ≤ seed; omega,by show seed ≤ 9223372036854775807; omega⟩,⟨by simp [newWorld]; omega,fun x hx => ?_⟩,⟨by simp [newWorld]; omega,fun b hb => ?_⟩⟩
 ·have : x = 0 := by simpa [newWorld] using List.eq_of_mem_replicate hx
  rw [this]; exact h0
 ·simp only [newWorld,List.mem_map,List.mem_range] at hb
  obtain ⟨k,hk,rfl⟩ := hb
  obtain ⟨_,h3,h4⟩ := fresh_free hl (p := (k : Int)) (by omega)
  exact ⟨h0,⟨by show (-9223372036854775808 : Int) ≤ (k : Int); omega,by show (k : Int) ≤ 9223372036854775807; omega⟩,⟨by omega,by omega⟩,⟨by omega,by omega⟩,h0,h0,⟨by simp only [fresh]; omega,by simp only [fresh]; omega⟩,⟨by simp only [fresh]; omega,by simp only [fresh]; omega⟩,h0⟩
theorem reps_succ (k : Nat) : els (List.replicate k (0 : Int)) ++ [[.v (.int .i64 0)]] = els (List.replicate (k + 1) (0 : Int)) := by rw [List.replicate_succ']; simp [els,Enc.e]
theorem row65 {a b c d e : Ob} {k : Nat} {x y : List (List T)} (h : x = y) : [a,b,c,d,Ob.row k x,e] = [a,b,c,d,Ob.row k y,e] := by rw [h]
theorem S_NewWorld (l : TLevel) (n : Nat) (seed : Int) (hg : Enc.gd l) (hL : l.Rows.length ≤ 1048576) (hl : levelOk l = true) (hn : 1 ≤ n ∧ n ≤ 4) (hs : inR seed 0 65535 = true) : Con Tryd.prog 65 [] [ag l,ai n,ai seed] (ownO (Enc.e (newWorld l n seed))) (.tu [.ag (ownV 0 (Enc.e (newWorld l n seed))),.c (bv true)]) := by
 have hwk := S_WorldOk (newWorld l n seed) (newWorld_gd hg hl hn hs)
 rw [newWorld_ok hl hn hs] at hwk
 have hcl := S_copyLevel l hg hL
 refine Con.of Tryd.func65 J Tryd.ntmps65 J (fun E => ?_)
 refine zy (M1 (Qq J J J J) J J (M1 (Qx J J J) J J (z1 J (zz (zy (z4 J J J ?_))))));refine M1 (Yv J J (hcl) J J J) J J ?_;refine z0 J (zx (q_build J J J J J) J (M1 (Qx J J J) J J ?_));refine Qy J J J J J J J J J (zz (Qd (zy (z1 J (zz (Qk ?_))))))
 refine AWP.pre (st' := (⟨_,[(1,I n),(3,.o (.c (.ptr 0 0))),(6,.o (.c (.ptr 1 0))),(8,.o (.c (.ptr 3 0))),(9,I 0)],[.box ((Enc.e l).map (V1.rd [])),.box [nilV,jn 0,jn 0,nilV,nilV],.row 1 (els l.Rows),.box [.ref 2,jn 0,jn seed,nilV,nilV]]⟩ : St)) ?_ (Xt [0,1,2,3] (by kernel_rfl))
 refine AWP.pre ?_ (Wk.nilbox (p := 3) (i := 3) 1 J J)
 refine AWP.pre ?_ (Wk.nilbox (p := 3) (i := 4) 9 J J)
 refine Xi (fun m st => ∃ k : Nat,k + m = n ∧ (True) ∧ st = (⟨_,[(1,I n),(3,.o (.c (.ptr 0 0))),(6,.o (.c (.ptr 1 0))),(8,.o (.c (.ptr 3 0))),(9,I k)],[.box ((Enc.e l).map (V1.rd [])),.box [nilV,jn 0,jn 0,nilV,nilV],.row 1 (els l.Rows),.box [.ref 2,jn 0,jn seed,.ref 4,.ref 5],.row 1 (els (List.replicate k (0 : Int))),.row 9 (els (freshs l k))]⟩ : St)) (n) ⟨_,⟨0,by omega,trivial,J⟩,Xt [0,1,2,3,4,5] (by kernel_rfl)⟩ ?_
 rintro m_A _ ⟨k,hk_A,hp_A,rfl⟩
 have hlk := X7 (freshs l k)
 have hlk2 := freshs_len l k
 have hl0 : (els (List.replicate k (0 : Int))).length = k := by rw [X7,List.length_replicate]
 have f2 : decide ((k : Int) ≤ 4) = true := decide_eq_true (by omega)
 by_cases h3 : k < n
 ·have f1 : decide ((k : Int) < n) = true := decide_eq_true (by omega)
  have hf := S_fresh l k hg hl (by omega)
  refine Qd (zy (z0 J (z0 J (z9a J (by assumption) (z0 J (z5 J (z0 J (z5 J (z9b J (by assumption) (zpT J ?_))))))))));refine zz (Qm J (Qh (Q0 (Qd (Qk (zy (z2 J J J (z3 J (M1 (Yt J J J J J J) J J ?_)))))))));refine Xp J J J J J J J J J J (by omega) (by omega) ?_;refine z2 J J J ?_;refine Q5 J J J J J J J J (zz ?_)
  refine AWP.pre (st' := (⟨_,[(1,I n),(3,.o (.c (.ptr 0 0))),(6,.o (.c (.ptr 1 0))),(8,.o (.c (.ptr 3 0))),(9,I k)],[.box ((Enc.e l).map (V1.rd [])),.box [nilV,jn 0,jn 0,nilV,nilV],.row 1 (els l.Rows),.box [.ref 2,jn 0,jn seed,.ref 4,.ref 5],.row 1 (els (List.replicate (k + 1) (0 : Int))),.row 9 (els (freshs l k))]⟩ : St)) ?_ (Xu [0,1,2,3,4,5] (by decide) J ((row65 (reps_succ k).symm)) (.c J (.c J (.c J (.c J (.c J (.nil)))))))
  refine Xh [[],[0],[],[],[2,3],[2,3,4],(u9 6),(u9 7),(u9 8)] [[],[28],[],[],[30,31],[30,31,32],[28,29,30,31,32,33],[28,29,30,31,32,33,34],[28,29,30,31,32,33,34,35]] [[30,31,32,33],[30,31,32,33],[28,29,31],[28,29,30],[28,29],[28,29],[],[],[]] J (DR.s (Qf J J J J (by decide)) J J (DR.s (Qg J J J J J) J J (DR.s (Qu J J J J J J) J J (DR.s (Qa J J J) J J ?_))));refine DR.s (Yv J J (hf) J J J) J J ?_;refine DR.s (Yt J J J J J J) J J (DR.stop (by kernel_rfl) (by kernel_rfl) ?_);refine AL.weak (st' := (⟨_,[(1,I n),(3,.o (.c (.ptr 0 0))),(6,.o (.c (.ptr 1 0))),(8,.o (.c (.ptr 3 0))),(9,I k),(29,.o (.c (.ref 5))),(33,.o (.c (.sb 6 1 9)))],[.box ((Enc.e l).map (V1.rd [])),.box [nilV,jn 0,jn 0,nilV,nilV],.row 1 (els l.Rows),.box [.ref 2,jn 0,jn seed,.ref 4,.ref 5],.row 1 (els (List.replicate (k + 1) (0 : Int))),.row 9 (els (freshs l k)),.box [jn 0,jn (k : Int),jn (spX (startT l k)),jn (spY (startT l k)),jn 0,jn 0,jn 1,jn 3,jn 0]]⟩ : St)) (Xt [0,1,2,3,4,5,6] (by kernel_rfl)) ?_;refine M_appo J J J J J J J J J J J J J J (by omega) (by omega) ?_;refine z2 J J J ?_;refine Q5 J J J J J J J J (Qe (Q1 (Q0 (Qc (z0 J (z7 J (by omega) (z1 J (zz ?_))))))))
  exact ⟨n - (k + 1),by omega,(fun k : Nat => (⟨_,[(1,I n),(3,.o (.c (.ptr 0 0))),(6,.o (.c (.ptr 1 0))),(8,.o (.c (.ptr 3 0))),(9,I k)],[.box ((Enc.e l).map (V1.rd [])),.box [nilV,jn 0,jn 0,nilV,nilV],.row 1 (els l.Rows),.box [.ref 2,jn 0,jn seed,.ref 4,.ref 5],.row 1 (els (List.replicate k (0 : Int))),.row 9 (els (freshs l k))]⟩ : St)) (k + 1),⟨k + 1,by omega,trivial,J⟩,Xu [0,1,2,3,4,5] (by decide) J (row6w (by rw [freshs_succ]; simp [els]; rfl)) (.c J (.c J (.c J (.c J (.c J (.nil))))))⟩
 have f1 : decide ((k : Int) < n) = false := decide_eq_false (by omega)
 have h3 : k = n := by omega
 subst h3
 refine Qd (zy (z0 J (z0 J (z9a J (by assumption) (z0 J (z6 J (z6 J (zpF J (zz ?_)))))))));refine Ql J (Q9 (T_x (T_x (Xj (Q0 (Qd (zy (z4 J J J ?_))))))));refine zx (Qj J J (hwk) J) J ?_;refine zn J (zz (Ql J (Qh (Q0 (zy (z4 J J J ?_))))));refine Qy J J J J J J J J J (z1 J (zz (Xa (F_r ?_))))
 exact Xk J J J J J (Xs [2,4,5] (by decide) J J J)
end
section
open Go.RowKit

theorem and_64k (n : Int) (h : 0 ≤ n) : ((n.toNat &&& (65535 : Int).toNat : Nat) : Int) = n % 65536 := by
 have := Nat.and_two_pow_sub_one_eq_mod n.toNat 16
 rw [show (65535 : Int).toNat = 2 ^ 16 - 1 from rfl,this]
 omega
theorem S_NextRandom (s : Int) (h : 0 ≤ s ∧ s ≤ 65535) : Con Tryd.prog 132 [] [ai s] [] (I (nextR s)) := by
 have hc := S_in s 0 65535
 rw [Yi.2 h] at hc
 refine Con.of Tryd.func132 J Tryd.ntmps132 J (fun E => ?_)
 refine zy (z1 J (zz (Qd (zy (z0 J ?_)))));refine zx (Qj J J (hc) J) J ?_;refine zn J (zz (Ql J (Qh (Q0 (zy (z0 J (zx (Y8 J J J J (by omega)) J (z7 J (by omega) (zx (Ys J J J J (by omega)) J ?_)))))))));refine z1 J (zz (Xa (F_r ?_)))
 exact Xl J J (Xs [] (by decide) J J (Xo (by rw [nextR,if_pos h,and_64k _ (by omega)])))
theorem S_RandomBelow (s n : Int) (h : 0 ≤ s ∧ s ≤ 65535) (hn : 1 ≤ n ∧ n ≤ 4096) : Con Tryd.prog 134 [] [ai s,ai n] [] (.tu [.c (jn (nextR s)),.c (jn (belowR s n))]) := by
 have c1 := S_in s 0 65535
 have c2 := S_in n 1 4096
 rw [Yi.2 h] at c1
 rw [Yi.2 hn] at c2
 have hc := S_NextRandom s h
 have hr := Yn s
 refine Con.of Tryd.func134 J Tryd.ntmps134 J (fun E => ?_)
 refine zy (z1 J (z1 J (zz (Qd (zy (z0 J ?_))))));refine zx (Qj J J (c1) J) J ?_;refine zn J (z0 J (z5 J (z0 J (z5 J ?_))));refine zx (Qj J J (c2) J) J ?_;refine z5 J (zn J (zpF J (zz (Ql J (Qh (Q0 (zy (z0 J ?_))))))));refine zx (Qj J J (hc) J) J ?_;refine z1 J (zz (Qd (Xh [[],[],[1],[],[1,2,3],[0],(u9 6)] [[],[],[18],[],[18,19,20],[17],[4,17,18,19,20,21]] [[18,19,20,21],[4,17,20],[4,17,20],[4,17,18,19],[4,17],[18,19,20,21],[]] J (DR.s (Qa J J J) J J (DR.s (Qa J J J) J J (DR.s (q_quo J J J J (by omega)) J J (DR.s (Qa J J J) J J (DR.s (q_rem J J J J (by omega)) J J (DR.s (Qb J J J) J J (DR.s (Qb J J J) J J ?_))))))))));refine DR.stop (by kernel_rfl) (by kernel_rfl) (zz (Xa (F_r ?_)))
 exact E_tmp2 J J J (Xs [] (by decide) J J J)
theorem S_ShotOf (b : TBody) (hx : 0 ≤ b.X ∧ b.X ≤ 1000) (hy : 0 ≤ b.Y ∧ b.Y ≤ 1000) (ha : -1 ≤ b.Aim ∧ b.Aim ≤ 1) : Con Tryd.prog 129 [] [ag b] [] (.o (.ag ((Enc.e (shotOf b)).map (V1.rd [])))) := by
 have c1 := S_in b.X 0 1000
 have c2 := S_in b.Y 0 1000
 have c3 := S_in b.Aim (-1) 1
 rw [Yi.2 hx] at c1
 rw [Yi.2 hy] at c2
 rw [Yi.2 ha] at c3
 refine Con.of Tryd.func129 J Tryd.ntmps129 J (fun E => ?_)
 refine zy (M1 (Qq J J J J) J J (M1 (Qx J J J) J J (zz (Qd (zy (z2 J J J (z3 J ?_)))))));refine zx (Qj J J (c1) J) J ?_;refine zn J (z0 J (z5 J (z2 J J J (z5 J (z3 J (z5 J ?_))))));refine zx (Qj J J (c2) J) J ?_;refine z5 J (zn J (zpF J (z0 J (z5 J (z2 J J J (z5 J (z3 J (z5 J ?_))))))));refine zx (Qj J J (c3) J) J ?_;refine z5 J (zn J (zpF J (zz (Ql J (Qh (Q0 (zy (z2 J J J (z3 J ?_)))))))));refine z2 J J J (z3 J (z7 J (by omega) (z2 J J J (z3 J (z7 J (by omega) (z2 J J J (z3 J (zx (Y8 J J J J (by omega)) J (zx (q_build J J J J J) J ?_)))))))));refine Qy J J J J J J J J J (zz (Xa (F_r ?_)))
 exact E_cell J J J J (Xs [] (by decide) J J J)
theorem S_BodiesMeet (a b : TBody) (ha : Placed a) (hb : Placed b) : Con Tryd.prog 160 [] [ag a,ag b] [] (B (meetM a b)) := by
 have sa := size_pos ha.k
 have sb := size_pos hb.k
 obtain ⟨ax1,ax2⟩ := ha.x
 obtain ⟨ay1,ay2⟩ := ha.y
 obtain ⟨bx1,bx2⟩ := hb.x
 obtain ⟨by1,by2⟩ := hb.y
 have c1 := S_SizeOf a.Kind
 have c2 := S_SizeOf b.Kind
 have c3 := S_in a.X 0 1000
 have c4 := S_in a.Y 0 1000
 have c5 := S_in b.X 0 1000
 have c6 := S_in b.Y 0 1000
 rw [Yi.2 ha.x] at c3
 rw [Yi.2 ha.y] at c4
 rw [Yi.2 hb.x] at c5
 rw [Yi.2 hb.y] at c6
 have f1 : decide (sizeOf a.Kind = 0) = false := decide_eq_false (by omega)
 have f2 : decide (sizeOf b.Kind = 0) = false := decide_eq_false (by omega)
 refine Con.of Tryd.func160 J Tryd.ntmps160 J (fun E => ?_)
 refine zy (M1 (Qq J J J J) J J (M1 (Qq J J J J) J J (z1 J (zz (zy (z2 J J J (z3 J ?_)))))));refine zx (Qj J J (c1) J) J ?_;refine z1 J (zz (zy (z2 J J J (z3 J ?_))));refine zx (Qj J J (c2) J) J ?_;refine z1 J (zz (Qd (zy (z0 J (z9e J (by assumption) (z0 J (z5 J (z0 J (z5 J ?_)))))))));refine z9e J (by assumption) (zpF J (z0 J (z5 J (z2 J J J (z5 J (z3 J (z5 J ?_)))))));refine zx (Qj J J (c3) J) J ?_;refine z5 J (zn J (zpF J (z0 J (z5 J (z2 J J J (z5 J (z3 J (z5 J ?_))))))));refine zx (Qj J J (c4) J) J ?_;refine z5 J (zn J (zpF J (z0 J (z5 J (z2 J J J (z5 J (z3 J (z5 J ?_))))))));refine zx (Qj J J (c5) J) J ?_;refine z5 J (zn J (zpF J (z0 J (z5 J (z2 J J J (z5 J (z3 J (z5 J ?_))))))));refine zx (Qj J J (c6) J) J ?_;refine z5 J (zn J (zpF J (zz (Ql J (Qh (Q0 (zy (z2 J J J (z3 J ?_)))))))));refine z2 J J J (z3 J (z0 J (z7 J (by omega) (zx (Y7 J J J J) J (z0 J ?_)))));refine zx (Qt.grdT J J J .stop (fun hgrd => Qf J J J J (by decide))) J ?_;refine zx (Qt.grdT J J J (.hit .stop) (fun hgrd => Qg J J J J J)) J ?_;refine zx (Qt.grdT J J J (.hit (.hit .stop)) (fun hgrd => Qf J J J J (by decide))) J ?_;refine zx (Qt.grdT J J J (.hit (.hit (.hit .stop))) (fun hgrd => Qg J J J J J)) J ?_;refine zx (Qt.grdT J J J (.hit (.hit (.hit (.hit .stop)))) (fun hgrd => Qa J J J)) J ?_;refine zx (Qt.grdT J J J (.hit (.hit (.hit (.hit (.hit .stop))))) (fun hgrd => Qs J J J J (by omega))) J ?_;refine zx (Qt.grdT J J J (.hit (.hit (.hit (.hit (.hit (.hit .stop)))))) (fun hgrd => Y7 J J J J)) J ?_;refine zx (Yq J J J J) J (z0 J ?_);refine zx (Qt.grdT J J J .stop (fun hgrd => Qf J J J J (by decide))) J ?_;refine zx (Qt.grdT J J J (.hit .stop) (fun hgrd => Qg J J J J J)) J ?_;refine zx (Qt.grdT J J J (.hit (.hit .stop)) (fun hgrd => Qf J J J J (by decide))) J ?_;refine zx (Qt.grdT J J J (.hit (.hit (.hit .stop))) (fun hgrd => Qg J J J J J)) J ?_;refine zx (Qt.grdT J J J (.hit (.hit (.hit (.hit .stop)))) (fun hgrd => Qa J J J)) J ?_;refine zx (Qt.grdT J J J (.hit (.hit (.hit (.hit (.hit .stop))))) (fun hgrd => Qs J J J J (by omega))) J ?_;refine zx (Qt.grdT J J J (.hit (.hit (.hit (.hit (.hit (.hit .stop)))))) (fun hgrd => Y7 J J J J)) J ?_;refine zx (Yq J J J J) J (z0 J ?_);refine zx (Qt.grdT J J J .stop (fun hgrd => Qf J J J J (by decide))) J ?_;refine zx (Qt.grdT J J J (.hit .stop) (fun hgrd => Qg J J J J J)) J ?_;refine zx (Qt.grdT J J J (.hit (.hit .stop)) (fun hgrd => Qf J J J J (by decide))) J ?_;refine zx (Qt.grdT J J J (.hit (.hit (.hit .stop))) (fun hgrd => Qg J J J J J)) J ?_;refine zx (Qt.grdT J J J (.hit (.hit (.hit (.hit .stop)))) (fun hgrd => Qa J J J)) J ?_;refine zx (Qt.grdT J J J (.hit (.hit (.hit (.hit (.hit .stop))))) (fun hgrd => Qs J J J J (by omega))) J ?_;refine zx (Qt.grdT J J J (.hit (.hit (.hit (.hit (.hit (.hit .stop)))))) (fun hgrd => Y7 J J J J)) J ?_;refine zx (Yq J J J J) J (z1 J (zz (Xa (F_r ?_))))
 exact Xl J J (Xs [] (by decide) J J J)
end
section
open Go.RowKit

theorem place_rng {l : TLevel} {x y s : Int} (hl : levelOk l = true) (h1 : 1 ≤ s ∧ s ≤ 16) (h : solidM l x y s = false) : (0 ≤ x ∧ x ≤ 400) ∧ (0 ≤ y ∧ y ≤ 400) := by
 obtain ⟨l3,l12,w,w4,w20,hw⟩ := Yj hl
 have hn : ¬ hits l x y s := fun hh => by rw [Zh hh] at h; cases h
 have : ¬ (x < 0 ∨ y < 0 ∨ (w : Int) * 16 - s < x ∨ (l.Rows.length : Int) * 16 - s < y) := fun q => hn (out_hits hw h1.1 q)
 omega
theorem steer_and {i : Int} {k m : Int} (h : (pressed i k && decide (((i.toNat &&& m.toNat : Nat) : Int) = 0)) = true) : (pressed i k && !pressed i m) = true := by
 simp only [Bool.and_eq_true,decide_eq_true_eq,Bool.not_eq_true'] at h ⊢
 exact ⟨h.1,decide_eq_false (fun q => q h.2)⟩
theorem steer_no {i : Int} {k m : Int} (h : (pressed i k && decide (((i.toNat &&& m.toNat : Nat) : Int) = 0)) = false) : (pressed i k && !pressed i m) = false := by
 rw [← Bool.not_eq_true] at h ⊢
 intro q
 simp only [Bool.and_eq_true,decide_eq_true_eq,Bool.not_eq_true',pressed,decide_eq_false_iff_not,Classical.not_not] at h q
 exact h q
@[reducible] def stB (K O X Y VX VY A L T : Int) : List V1 := [jn K,jn O,jn X,jn Y,jn VX,jn VY,jn A,jn L,jn T]
theorem S_l02Steer (l : TLevel) (b : TBody) (i : Int) (hg : Enc.gd l) (hl : levelOk l = true) (hk : b.Kind = 0) (hi : 0 ≤ i ∧ i ≤ 15) (ht : 0 ≤ b.Timer ∧ b.Timer ≤ 20) (hv : -15 ≤ b.VY ∧ b.VY ≤ 15) (hp : solidM l b.X b.Y 12 = false) : Con Tryd.prog 128 [] [ag l,ag b,ai i] [] (.tu [.ag ((Enc.e (steer l b i).1).map (V1.rd [])),.c (bv (steer l b i).2)]) := by
 obtain ⟨⟨px1,px2⟩,⟨py1,py2⟩⟩ := place_rng hl (by decide) hp
 have cs := S_l02Solid l b.X (b.Y + 1) 12 hl ⟨by omega,by omega⟩ ⟨by omega,by omega⟩ (by decide) (by decide)
 have cz : Con Tryd.prog 148 [] [ai b.Kind] [] (I 12) := by rw [hk]; exact S_SizeOf 0
 obtain ⟨T,hT⟩ : ∃ T,T = (if 0 < b.Timer then b.Timer - 1 else b.Timer) := ⟨_,rfl⟩
 have hT1 : 0 ≤ T ∧ T ≤ 20 := by rw [hT]; split <;> omega
 obtain ⟨R,hR⟩ : ∃ R,R = (pressed i 2 && !pressed i 1) := ⟨_,rfl⟩
 obtain ⟨Lf,hLf⟩ : ∃ Lf,Lf = (pressed i 1 && !pressed i 2) := ⟨_,rfl⟩
 rw [steer,← hT,← hR,← hLf]
 refine Con.of Tryd.func128 J Tryd.ntmps128 J (fun E => ?_)
 refine zy (M1 (Qq J J J J) J J (M1 (Qq J J J J) J J (M1 (Qx J J J) J J (z1 J (zz (Qd (zy (z2 J J J ?_))))))));refine z3 J (zx (q_gtr J J J J) J (zz ?_))
 refine A_join (⟨68,[(2,I i),(3,.o (.c (.ptr 0 0))),(4,.o (.c (.ptr 1 0))),(6,.o (.c (.ptr 2 0)))],[.box ((Enc.e l).map (V1.rd [])),.box (stB b.Kind b.Owner b.X b.Y b.VX b.VY b.Aim b.Life T),.box (stB 0 0 0 0 0 0 0 0 0)]⟩ : St) ?_ ?_
 ·refine Xb rfl (fun h => ?_) (fun h => ?_)
  ·have h := of_decide_eq_true h
   have hT2 : b.Timer - 1 = T := by rw [hT,if_pos h]
   refine Qc (z2 J J J (z3 J (z8 J (by omega) (z2 J J J ?_))));refine Q5 J J J J J J J J (Qe ?_)
   exact Mid.n (by rw [← hT2]; exact Xt [0,1,2] (by kernel_rfl))
  ·have h := of_decide_eq_false h
   have hT2 : b.Timer = T := by rw [hT,if_neg h]
   refine Qh ?_
   exact Mid.n (by rw [← hT2]; exact Xt [0,1,2] (by kernel_rfl))
 refine zy (z2 J J J ?_);refine Q5 J J J J J J J J (zz (Qd (zy (z0 J (zx (Ys J J J J (by omega)) J (zx (Y9 J J J J) J (z0 J ?_)))))));refine zx (Qt.grdT J J J .stop (fun hgrd => Qa J J J)) J ?_;refine zx (Qt.grdT J J J (.hit .stop) (fun hgrd => Ys J J J J (by omega))) J ?_;refine zx (Qt.grdT J J J (.hit (.hit .stop)) (fun hgrd => Yx J J J J)) J ?_;refine zx (Yq J J J J) J (zz ?_)
 refine A_join (⟨68,[(2,I i),(3,.o (.c (.ptr 0 0))),(4,.o (.c (.ptr 1 0))),(6,.o (.c (.ptr 2 0)))],[.box ((Enc.e l).map (V1.rd [])),.box (stB b.Kind b.Owner b.X b.Y (if R = true then 3 else 0) b.VY (if R = true then 1 else b.Aim) b.Life T),.box (stB 0 0 0 0 0 0 0 0 0)]⟩ : St) ?_ ?_
 ·refine Xb rfl (fun h => ?_) (fun h => ?_)
  ·have h2 : R = true := by rw [hR]; exact steer_and h
   refine zy (z2 J J J ?_);refine Q5 J J J J J J J J (zz (Qc (z2 J J J ?_)));refine Q5 J J J J J J J J (Qe ?_)
   exact Mid.n (by rw [if_pos h2,if_pos h2]; exact Xt [0,1,2] (by kernel_rfl))
  ·have h2 : ¬ R = true := by rw [hR]; intro q; exact Bool.false_ne_true (Eq.trans (steer_no h).symm q)
   refine Qh ?_
   exact Mid.n (by rw [if_neg h2,if_neg h2]; exact Xt [0,1,2] (by kernel_rfl))
 refine Qd (zy (z0 J (zx (Ys J J J J (by omega)) J (zx (Y9 J J J J) J (z0 J ?_)))));refine zx (Qt.grdT J J J .stop (fun hgrd => Qa J J J)) J ?_;refine zx (Qt.grdT J J J (.hit .stop) (fun hgrd => Ys J J J J (by omega))) J ?_;refine zx (Qt.grdT J J J (.hit (.hit .stop)) (fun hgrd => Yx J J J J)) J ?_;refine zx (Yq J J J J) J (zz ?_)
 refine A_join (⟨68,[(2,I i),(3,.o (.c (.ptr 0 0))),(4,.o (.c (.ptr 1 0))),(6,.o (.c (.ptr 2 0)))],[.box ((Enc.e l).map (V1.rd [])),.box (stB b.Kind b.Owner b.X b.Y (if Lf = true then -3 else if R = true then 3 else 0) b.VY (if Lf = true then -1 else if R = true then 1 else b.Aim) b.Life T),.box (stB 0 0 0 0 0 0 0 0 0)]⟩ : St) ?_ ?_
 ·refine Xb rfl (fun h => ?_) (fun h => ?_)
  ·have h2 : Lf = true := by rw [hLf]; exact steer_and h
   refine zy (z2 J J J ?_);refine Q5 J J J J J J J J (zz (Qc (z2 J J J ?_)));refine Q5 J J J J J J J J (Qe ?_)
   exact Mid.n (by rw [if_pos h2,if_pos h2]; exact Xt [0,1,2] (by kernel_rfl))
  ·have h2 : ¬ Lf = true := by rw [hLf]; intro q; exact Bool.false_ne_true (Eq.trans (steer_no h).symm q)
   refine Qh ?_
   exact Mid.n (by rw [if_neg h2,if_neg h2]; exact Xt [0,1,2] (by kernel_rfl))
 obtain ⟨vx,hvx⟩ : ∃ vx,vx = (if Lf = true then -3 else if R = true then 3 else 0) := ⟨_,rfl⟩
 obtain ⟨am,ham⟩ : ∃ am,am = (if Lf = true then -1 else if R = true then 1 else b.Aim) := ⟨_,rfl⟩
 rw [← hvx,← ham]
 obtain ⟨Fi,hFi⟩ : ∃ Fi,Fi = (pressed i 8 && decide (T = 0)) := ⟨_,rfl⟩
 rw [← hFi]
 by_cases hJ : pressed i 4 = true
 ·have fJ : decide (((i.toNat &&& (4 : Int).toNat : Nat) : Int) ≠ 0) = true := hJ
  cases hs : solidM l b.X (b.Y + 1) 12 with
  | true =>
   rw [hs] at cs
   rw [hJ]
   refine Qd (Qd (Xh u8_6 u8_7 u8_8 J (DR.s (Qa J J J) J J (DR.s (Ys J J J J (by omega)) J J (DR.s (Qw J J J J (by assumption)) J J (DR.s (Qa J J J) J J (DR.s (Qt.yes J J J (Qu J J J J J J)) J J (DR.s (Qt.yes J J J (Qf J J J J (by decide))) J J (DR.s (Qt.yes J J J (Qg J J J J J)) J J (DR.s (Qt.yes J J J (Qf J J J J (by decide))) J J (DR.s (Qt.yes J J J (Qg J J J J J)) J J ?_)))))))))));refine DR.s (Qt.yes J J J (Qs J J J J (by omega))) J J (DR.s (Qt.yes J J J (Qf J J J J (by decide))) J J (DR.s (Qt.yes J J J (Qg J J J J J)) J J ?_));refine DR.s (Qt.yes J J J (Qj J J (cz) J)) J J ?_;refine DR.s (Qt.yes J J J (Qj J J (cs) J)) J J ?_;refine DR.s (Qo J J J J) J J (DR.stop (by kernel_rfl) (by kernel_rfl) (zz (Qm J (Qc (z2 J J J ?_)))));refine Q5 J J J J J J J J (zz (Qd (zy (z0 J (zx (Ys J J J J (by omega)) J (zx (Y9 J J J J) J (z0 J ?_)))))));refine zx (Qt.grdT J J J .stop (fun hgrd => Qf J J J J (by decide))) J ?_;refine zx (Qt.grdT J J J (.hit .stop) (fun hgrd => Qg J J J J J)) J ?_;refine zx (Qt.grdT J J J (.hit (.hit .stop)) (fun hgrd => Yx J J J J)) J ?_;refine zx (Yq J J J J) J (zz ?_)
   refine Xb J (fun h => ?_) (fun h => ?_)
   ·have h2 : Fi = true := by rw [hFi]; exact h
    rw [h2]
    refine zy (z2 J J J ?_);refine Q5 J J J J J J J J (zz (zy (z4 J J J ?_)));refine Qy J J J J J J J J J (z1 J (zz (Xa (T_r (F_r ?_)))))
    exact Xk J J J J J (Xs [] (by decide) J J J)
   ·have h2 : Fi = false := by rw [hFi]; exact h
    rw [h2]
    refine Qh (Q0 (zy (z4 J J J ?_)));refine Qy J J J J J J J J J (z1 J (zz (Xa (F_r ?_))))
    exact Xk J J J J J (Xs [] (by decide) J J J)
  | false =>
   rw [hs] at cs
   rw [hJ]
   refine Qd (Qd (Xh u8_6 u8_7 u8_8 J (DR.s (Qa J J J) J J (DR.s (Ys J J J J (by omega)) J J (DR.s (Qw J J J J (by assumption)) J J (DR.s (Qa J J J) J J (DR.s (Qt.yes J J J (Qu J J J J J J)) J J (DR.s (Qt.yes J J J (Qf J J J J (by decide))) J J (DR.s (Qt.yes J J J (Qg J J J J J)) J J (DR.s (Qt.yes J J J (Qf J J J J (by decide))) J J (DR.s (Qt.yes J J J (Qg J J J J J)) J J ?_)))))))))));refine DR.s (Qt.yes J J J (Qs J J J J (by omega))) J J (DR.s (Qt.yes J J J (Qf J J J J (by decide))) J J (DR.s (Qt.yes J J J (Qg J J J J J)) J J ?_));refine DR.s (Qt.yes J J J (Qj J J (cz) J)) J J ?_;refine DR.s (Qt.yes J J J (Qj J J (cs) J)) J J ?_;refine DR.s (Qo J J J J) J J (DR.stop (by kernel_rfl) (by kernel_rfl) (zz (Ql J (Qc (z2 J J J (z3 J (z7 J (by omega) (zx (q_min J J J J) J (z2 J J J ?_)))))))));refine Q5 J J J J J J J J (zz (Qd (zy (z0 J (zx (Ys J J J J (by omega)) J (zx (Y9 J J J J) J (z0 J ?_)))))));refine zx (Qt.grdT J J J .stop (fun hgrd => Qf J J J J (by decide))) J ?_;refine zx (Qt.grdT J J J (.hit .stop) (fun hgrd => Qg J J J J J)) J ?_;refine zx (Qt.grdT J J J (.hit (.hit .stop)) (fun hgrd => Yx J J J J)) J ?_;refine zx (Yq J J J J) J (zz ?_)
   refine Xb J (fun h => ?_) (fun h => ?_)
   ·have h2 : Fi = true := by rw [hFi]; exact h
    rw [h2]
    refine zy (z2 J J J ?_);refine Q5 J J J J J J J J (zz (zy (z4 J J J ?_)));refine Qy J J J J J J J J J (z1 J (zz (Xa (T_r (F_r ?_)))))
    exact Xk J J J J J (Xs [] (by decide) J J J)
   ·have h2 : Fi = false := by rw [hFi]; exact h
    rw [h2]
    refine Qh (Q0 (zy (z4 J J J ?_)));refine Qy J J J J J J J J J (z1 J (zz (Xa (F_r ?_))))
    exact Xk J J J J J (Xs [] (by decide) J J J)
 ·have fJ : decide (((i.toNat &&& (4 : Int).toNat : Nat) : Int) ≠ 0) = false := by simpa [pressed] using hJ
  rw [show pressed i 4 = false by simpa using hJ]
  refine Qd (Qd (Xh u8_6 u8_7 u8_8 J (DR.s (Qa J J J) J J (DR.s (Ys J J J J (by omega)) J J (DR.s (Qw J J J J (by assumption)) J J (DR.s (Qa J J J) J J (DR.s (Qt.no J J J J) J J (DR.s (Qt.no J J J J) J J (DR.s (Qt.no J J J J) J J (DR.s (Qt.no J J J J) J J (DR.s (Qt.no J J J J) J J ?_)))))))))));refine DR.s (Qt.no J J J J) J J (DR.s (Qt.no J J J J) J J (DR.s (Qt.no J J J J) J J (DR.s (Qt.no J J J J) J J (DR.s (Qt.no J J J J) J J (DR.s (Qn J J J J) J J (DR.stop (by kernel_rfl) (by kernel_rfl) (zz (Ql J (Qc (z2 J J J ?_))))))))));refine z3 J (z7 J (by omega) (zx (q_min J J J J) J (z2 J J J ?_)));refine Q5 J J J J J J J J (zz (Qd (zy (z0 J (zx (Ys J J J J (by omega)) J (zx (Y9 J J J J) J (z0 J ?_)))))));refine zx (Qt.grdT J J J .stop (fun hgrd => Qf J J J J (by decide))) J ?_;refine zx (Qt.grdT J J J (.hit .stop) (fun hgrd => Qg J J J J J)) J ?_;refine zx (Qt.grdT J J J (.hit (.hit .stop)) (fun hgrd => Yx J J J J)) J ?_;refine zx (Yq J J J J) J (zz ?_)
  refine Xb J (fun h => ?_) (fun h => ?_)
  ·have h2 : Fi = true := by rw [hFi]; exact h
   rw [h2]
   refine zy (z2 J J J ?_);refine Q5 J J J J J J J J (zz (zy (z4 J J J ?_)));refine Qy J J J J J J J J J (z1 J (zz (Xa (T_r (F_r ?_)))))
   exact Xk J J J J J (Xs [] (by decide) J J J)
  ·have h2 : Fi = false := by rw [hFi]; exact h
   rw [h2]
   refine Qh (Q0 (zy (z4 J J J ?_)));refine Qy J J J J J J J J J (z1 J (zz (Xa (F_r ?_))))
   exact Xk J J J J J (Xs [] (by decide) J J J)
end
section
open Go.RowKit

theorem slide_free {hit : Int → Bool} {step : Int} : ∀ (n : Nat) (x : Int),hit x = false → hit (slide hit step n x).1 = false
 | 0,x,h => h
 | n + 1,x,h => by
  rw [slide]
  split
  ·exact h
  ·exact slide_free n (x + step) (by rename_i q; simpa using q)
section
variable {P : Program} {E : Env} {st st' : St}
theorem A_joinb {c d : Code} {id : Nat} {Q Q' : Exit → St → Prop} (st' : St) (h1 : AWP P E c (blk id (Mid st')) st) (h2 : AWP P E d Q' st') : AWP P E c (blk id (thn (AWP P E d Q') Q)) st :=
 AWP.mono (fun e s h => by
  have hh := h.h
  cases e with
  | normal => obtain ⟨_,hw⟩ := hh.h; exact ⟨⟨AWP.weak hw h2⟩⟩
  | exit id' =>
   by_cases hi : id' = id
   ·subst hi
    have hh : (if id' = id' then Mid st' .normal s else Mid st' (.exit id') s) := hh
    rw [if_pos rfl] at hh
    obtain ⟨_,hw⟩ := hh.h
    exact Xj (Q0 (AWP.weak hw h2))
   ·have hh : (if id' = id then Mid st' .normal s else Mid st' (.exit id') s) := hh
    rw [if_neg hi] at hh
    obtain ⟨he,_⟩ := hh.h
    cases he
  | goto l => obtain ⟨he,_⟩ := Mid.h hh; cases he
  | ret => obtain ⟨he,_⟩ := Mid.h hh; cases he
  | panic c => obtain ⟨he,_⟩ := Mid.h hh; cases he
  | outgrown => obtain ⟨he,_⟩ := Mid.h hh; cases he) h1
end
theorem S_l02Move (l : TLevel) (b : TBody) (hg : Enc.gd l) (hl : levelOk l = true) (hk : 0 ≤ b.Kind ∧ b.Kind ≤ 2) (hp : solidM l b.X b.Y (sizeOf b.Kind) = false) (hx : -15 ≤ b.VX ∧ b.VX ≤ 15) (hy : -15 ≤ b.VY ∧ b.VY ≤ 15) : Con Tryd.prog 130 [] [ag l,ag b] [] (.tu [.ag ((Enc.e (moveM l b).1).map (V1.rd [])),.c (bv (moveM l b).2)]) := by
 obtain ⟨s4,s12⟩ := size_pos hk
 obtain ⟨s,hs⟩ : ∃ s,s = sizeOf b.Kind := ⟨_,rfl⟩
 rw [← hs] at s4 s12 hp
 have cz := S_SizeOf b.Kind
 rw [← hs] at cz
 obtain ⟨⟨px1,px2⟩,⟨py1,py2⟩⟩ := place_rng hl ⟨by omega,by omega⟩ hp
 obtain ⟨X1,b1,hR⟩ : ∃ X1 b1,(X1,b1) = moveX l b := ⟨_,_,rfl⟩
 obtain ⟨Y1,b2,hS⟩ : ∃ Y1 b2,(Y1,b2) = moveY l b := ⟨_,_,rfl⟩
 obtain ⟨N,hN⟩ : ∃ N,N = b.VX.natAbs := ⟨_,rfl⟩
 obtain ⟨M,hM⟩ : ∃ M,M = b.VY.natAbs := ⟨_,rfl⟩
 obtain ⟨d,hd⟩ : ∃ d,d = dirOf b.VX := ⟨_,rfl⟩
 obtain ⟨e,he⟩ : ∃ e,e = dirOf b.VY := ⟨_,rfl⟩
 have hd1 : -1 ≤ d ∧ d ≤ 1 := by rw [hd,dirOf]; split <;> omega
 have he1 : -1 ≤ e ∧ e ≤ 1 := by rw [he,dirOf]; split <;> omega
 have hR1 : slide (fun z => solidM l z b.Y s) d (N - 0) b.X = (X1,b1) := by rw [hs,hd,hN]; exact hR.symm
 have hR2 : slide (fun z => solidM l X1 z s) e (M - 0) b.Y = (Y1,b2) := by rw [show X1 = (moveX l b).1 by rw [← hR],hs,he,hM]; exact hS.symm
 have hp2 : solidM l X1 b.Y s = false := by have h := slide_free (hit := fun z => solidM l z b.Y s) (step := d) (N - 0) b.X hp; rw [hR1] at h; exact h
 have hmm : moveM l b = (⟨b.Kind,b.Owner,X1,Y1,if b1 = true then 0 else b.VX,if b2 = true then 0 else b.VY,b.Aim,b.Life,b.Timer⟩,b1 || b2) := by rw [moveM,← hR,← hS]
 rw [hmm]
 have hNb : N ≤ 15 := by omega
 have hMb : M ≤ 15 := by omega
 refine Con.of Tryd.func130 J Tryd.ntmps130 J (fun E => ?_)
 refine zy (M1 (Qq J J J J) J J (M1 (Qq J J J J) J J (M1 (Qx J J J) J J (z1 J (zz (zy (z2 J J J (z3 J ?_))))))));refine zx (Qj J J (cz) J) J ?_;refine z1 J (zz (zy (z1 J (zz (zy (z1 J (Qe ?_)))))));refine Q0 (zy (z2 J J J (z3 J (z1 J (zz (Qd (zy (z0 J ?_))))))));refine zx (Y7 J J J J) J (zz ?_)
 refine A_join (⟨65,[(2,.o (.c (.ptr 0 0))),(3,.o (.c (.ptr 1 0))),(4,.o (.c (.ptr 2 0))),(6,I s),(7,B false),(8,I d),(9,I N)],[.box ((Enc.e l).map (V1.rd [])),.box (stB b.Kind b.Owner b.X b.Y b.VX b.VY b.Aim b.Life b.Timer),.box (stB 0 0 0 0 0 0 0 0 0)]⟩ : St) ?_ ?_
 ·refine Xb rfl (fun h => ?_) (fun h => ?_)
  ·have h := of_decide_eq_true h
   obtain rfl : d = -1 := by rw [hd,dirOf,if_pos h]
   have hq : (N : Int) = -b.VX := by omega
   refine zy (z1 J (zz (Qc (z0 J (zx (q_neg J J J (by omega)) J (z1 J (Qe ?_)))))))
   exact Mid.n (Xu [0,1,2] (by decide) J (by kernel_rfl) (.c J (.c J (.c J (.c J (.c J (.c J (.cons (by rw [hq]; rfl) (.nil)))))))))
  ·have h := of_decide_eq_false h
   obtain rfl : d = 1 := by rw [hd,dirOf,if_neg h]
   have hq : (N : Int) = b.VX := by omega
   refine Qh ?_
   exact Mid.n (Xu [0,1,2] (by decide) J (by kernel_rfl) (.c J (.c J (.c J (.c J (.c J (.c J (.cons (by rw [hq]; rfl) (.nil)))))))))
 refine Qd (Qk ?_)
 refine A_joinb (⟨65,[(2,.o (.c (.ptr 0 0))),(3,.o (.c (.ptr 1 0))),(4,.o (.c (.ptr 2 0))),(6,I s),(7,B b1)],[.box ((Enc.e l).map (V1.rd [])),.box (stB b.Kind b.Owner X1 b.Y (if b1 = true then 0 else b.VX) b.VY b.Aim b.Life b.Timer),.box (stB 0 0 0 0 0 0 0 0 0)]⟩ : St) ?_ ?_
 ·skip
  refine Xi (fun m__ st => ∃ (k : Nat) (x : Int),N - k = m__ ∧ (k ≤ N ∧ solidM l x b.Y s = false ∧ slide (fun z => solidM l z b.Y s) d (N - k) x = (X1,b1)) ∧ st = (⟨_,[(2,.o (.c (.ptr 0 0))),(3,.o (.c (.ptr 1 0))),(4,.o (.c (.ptr 2 0))),(6,I s),(7,B false),(8,I d),(9,I ((N : Int) - k))],[.box ((Enc.e l).map (V1.rd [])),.box (stB b.Kind b.Owner x b.Y b.VX b.VY b.Aim b.Life b.Timer),.box (stB 0 0 0 0 0 0 0 0 0)]⟩ : St)) _ ⟨(fun (k : Nat) (x : Int) => (⟨_,[(2,.o (.c (.ptr 0 0))),(3,.o (.c (.ptr 1 0))),(4,.o (.c (.ptr 2 0))),(6,I s),(7,B false),(8,I d),(9,I ((N : Int) - k))],[.box ((Enc.e l).map (V1.rd [])),.box (stB b.Kind b.Owner x b.Y b.VX b.VY b.Aim b.Life b.Timer),.box (stB 0 0 0 0 0 0 0 0 0)]⟩ : St)) (0) (b.X),⟨0,b.X,J,⟨by omega,hp,hR1⟩,J⟩,Xu [0,1,2] (by decide) J (by kernel_rfl) (.c J (.c J (.c J (.c J (.c J (.c J (.cons (by rw [show ((N : Int) - ((0 : Nat) : Int)) = (N : Int) by omega]; rfl) (.nil))))))))⟩ ?_
  rintro m_A _ ⟨k,x,hk_A,hp_A,rfl⟩
  obtain ⟨hkn,hfr,hsl⟩ := hp_A
  obtain ⟨⟨qx1,qx2⟩,_⟩ := place_rng hl ⟨by omega,by omega⟩ hfr
  by_cases hlt : k < N
  ·have hb : decide ((0 : Int) < (N : Int) - k) = true := decide_eq_true (by omega)
   have cs := S_l02Solid l (x + d) b.Y s hl ⟨by omega,by omega⟩ ⟨by omega,by omega⟩ (by omega) (by omega)
   obtain ⟨m,hm⟩ : ∃ m,N - k = m + 1 := ⟨N - k - 1,by omega⟩
   cases hh : solidM l (x + d) b.Y s with
   | true =>
    rw [hh] at cs
    rw [hm,slide_hit (hit := fun z => solidM l z b.Y s) hh] at hsl
    obtain ⟨rfl,rfl⟩ := Prod.mk.inj hsl
    refine Qd (zy (z0 J (z9c J (by assumption) (zz (Qm J (Qh (Q0 (Qd (Qk ?_)))))))));refine Qd (zy (z4 J J J (z2 J J J (z3 J (z0 J (z7 J (by omega) (z2 J J J (z3 J (z0 J ?_)))))))));refine zx (Qj J J (cs) J) J ?_;refine zz (Qm J (zy (z2 J J J ?_)));refine Q5 J J J J J J J J (zz (zy (z1 J (zz (Q9 (T_x (B_xo J (T_x ?_))))))));refine T_x (Xj ?_)
    exact Mid.n (Xt [0,1,2] (by kernel_rfl))
   | false =>
    rw [hh] at cs
    rw [hm,slide_go (hit := fun z => solidM l z b.Y s) hh] at hsl
    refine Qd (zy (z0 J (z9c J (by assumption) (zz (Qm J (Qh (Q0 (Qd (Qk ?_)))))))));refine Qd (zy (z4 J J J (z2 J J J (z3 J (z0 J (z7 J (by omega) (z2 J J J (z3 J (z0 J ?_)))))))));refine zx (Qj J J (cs) J) J ?_;refine zz (Ql J (Qh (Q0 (Qc (z2 J J J (z3 J (z0 J (z7 J (by omega) (z2 J J J ?_)))))))));refine Q5 J J J J J J J J (Qe (Q1 (Q0 (Qc (z0 J (z8 J (by omega) (z1 J (zz ?_))))))))
    refine ⟨_,(by omega),(fun (k : Nat) (x : Int) => (⟨_,[(2,.o (.c (.ptr 0 0))),(3,.o (.c (.ptr 1 0))),(4,.o (.c (.ptr 2 0))),(6,I s),(7,B false),(8,I d),(9,I ((N : Int) - k))],[.box ((Enc.e l).map (V1.rd [])),.box (stB b.Kind b.Owner x b.Y b.VX b.VY b.Aim b.Life b.Timer),.box (stB 0 0 0 0 0 0 0 0 0)]⟩ : St)) (k + 1) (x + d),⟨k + 1,x + d,J,⟨by omega,hh,by rw [show N - (k + 1) = m by omega]; exact hsl⟩,J⟩,Xu [0,1,2] (by decide) J (by kernel_rfl) (.c J (.c J (.c J (.c J (.c J (.c J (.cons (by rw [show ((N : Int) - ((k + 1 : Nat) : Int)) = (N : Int) - k - 1 by omega]; rfl) (.nil))))))))⟩
  ·have hb : decide ((0 : Int) < (N : Int) - k) = false := decide_eq_false (by omega)
   rw [show N - k = 0 by omega,slide] at hsl
   obtain ⟨rfl,rfl⟩ := Prod.mk.inj hsl
   refine Qd (zy (z0 J (z9c J (by assumption) (zz (Ql J (Q9 (T_x (T_x (Xj ?_)))))))))
   exact Mid.n (Xt [0,1,2] (by kernel_rfl))
 refine zy (z1 J (zz (zy (z2 J J J (z3 J (z1 J (zz ?_)))))));refine Qd (zy (z0 J (zx (Y7 J J J J) J (zz ?_))))
 refine A_join (⟨65,[(2,.o (.c (.ptr 0 0))),(3,.o (.c (.ptr 1 0))),(4,.o (.c (.ptr 2 0))),(6,I s),(7,B b1),(8,I e),(9,I M)],[.box ((Enc.e l).map (V1.rd [])),.box (stB b.Kind b.Owner X1 b.Y (if b1 = true then 0 else b.VX) b.VY b.Aim b.Life b.Timer),.box (stB 0 0 0 0 0 0 0 0 0)]⟩ : St) ?_ ?_
 ·refine Xb rfl (fun h => ?_) (fun h => ?_)
  ·have h := of_decide_eq_true h
   obtain rfl : e = -1 := by rw [he,dirOf,if_pos h]
   have hq : (M : Int) = -b.VY := by omega
   refine zy (z1 J (zz (Qc (z0 J (zx (q_neg J J J (by omega)) J (z1 J (Qe ?_)))))))
   exact Mid.n (Xu [0,1,2] (by decide) J (by kernel_rfl) (.c J (.c J (.c J (.c J (.c J (.c J (.cons (by rw [hq]; rfl) (.nil)))))))))
  ·have h := of_decide_eq_false h
   obtain rfl : e = 1 := by rw [he,dirOf,if_neg h]
   have hq : (M : Int) = b.VY := by omega
   refine Qh ?_
   exact Mid.n (Xu [0,1,2] (by decide) J (by kernel_rfl) (.c J (.c J (.c J (.c J (.c J (.c J (.cons (by rw [hq]; rfl) (.nil)))))))))
 refine Qd (Qk ?_)
 refine A_joinb (⟨65,[(2,.o (.c (.ptr 0 0))),(3,.o (.c (.ptr 1 0))),(4,.o (.c (.ptr 2 0))),(6,I s),(7,B (b1 || b2))],[.box ((Enc.e l).map (V1.rd [])),.box (stB b.Kind b.Owner X1 Y1 (if b1 = true then 0 else b.VX) (if b2 = true then 0 else b.VY) b.Aim b.Life b.Timer),.box (stB 0 0 0 0 0 0 0 0 0)]⟩ : St) ?_ ?_
 ·skip
  refine Xi (fun m__ st => ∃ (k : Nat) (y : Int),M - k = m__ ∧ (k ≤ M ∧ solidM l X1 y s = false ∧ slide (fun z => solidM l X1 z s) e (M - k) y = (Y1,b2)) ∧ st = (⟨_,[(2,.o (.c (.ptr 0 0))),(3,.o (.c (.ptr 1 0))),(4,.o (.c (.ptr 2 0))),(6,I s),(7,B b1),(8,I e),(9,I ((M : Int) - k))],[.box ((Enc.e l).map (V1.rd [])),.box (stB b.Kind b.Owner X1 y (if b1 = true then 0 else b.VX) b.VY b.Aim b.Life b.Timer),.box (stB 0 0 0 0 0 0 0 0 0)]⟩ : St)) _ ⟨(fun (k : Nat) (y : Int) => (⟨_,[(2,.o (.c (.ptr 0 0))),(3,.o (.c (.ptr 1 0))),(4,.o (.c (.ptr 2 0))),(6,I s),(7,B b1),(8,I e),(9,I ((M : Int) - k))],[.box ((Enc.e l).map (V1.rd [])),.box (stB b.Kind b.Owner X1 y (if b1 = true then 0 else b.VX) b.VY b.Aim b.Life b.Timer),.box (stB 0 0 0 0 0 0 0 0 0)]⟩ : St)) (0) (b.Y),⟨0,b.Y,J,⟨by omega,hp2,hR2⟩,J⟩,Xu [0,1,2] (by decide) J (by kernel_rfl) (.c J (.c J (.c J (.c J (.c J (.c J (.cons (by rw [show ((M : Int) - ((0 : Nat) : Int)) = (M : Int) by omega]; rfl) (.nil))))))))⟩ ?_
  rintro m_B _ ⟨k,y,hk_B,hp_B,rfl⟩
  obtain ⟨hkn,hfr,hsl⟩ := hp_B
  obtain ⟨_,⟨qx1,qx2⟩⟩ := place_rng hl ⟨by omega,by omega⟩ hfr
  by_cases hlt : k < M
  ·have hb : decide ((0 : Int) < (M : Int) - k) = true := decide_eq_true (by omega)
   have cs := S_l02Solid l X1 (y + e) s hl ⟨by omega,by omega⟩ ⟨by omega,by omega⟩ (by omega) (by omega)
   obtain ⟨m,hm⟩ : ∃ m,M - k = m + 1 := ⟨M - k - 1,by omega⟩
   cases hh : solidM l X1 (y + e) s with
   | true =>
    rw [hh] at cs
    rw [hm,slide_hit (hit := fun z => solidM l X1 z s) hh] at hsl
    obtain ⟨rfl,rfl⟩ := Prod.mk.inj hsl
    refine Qd (zy (z0 J (z9c J (by assumption) (zz (Qm J (Qh (Q0 (Qd (Qk ?_)))))))));refine Qd (zy (z4 J J J (z2 J J J (z3 J (z2 J J J (z3 J (z0 J (z7 J (by omega) (z0 J ?_)))))))));refine zx (Qj J J (cs) J) J ?_;refine zz (Qm J (zy (z2 J J J ?_)));refine Q5 J J J J J J J J (zz (zy (z1 J (zz (Q9 (T_x (B_xo J (T_x ?_))))))));refine T_x (Xj ?_)
    exact Mid.n (Xu [0,1,2] (by decide) J (by kernel_rfl) (.c J (.c J (.c J (.c J (.cons (by cases b1 <;> rfl) (.nil)))))))
   | false =>
    rw [hh] at cs
    rw [hm,slide_go (hit := fun z => solidM l X1 z s) hh] at hsl
    refine Qd (zy (z0 J (z9c J (by assumption) (zz (Qm J (Qh (Q0 (Qd (Qk ?_)))))))));refine Qd (zy (z4 J J J (z2 J J J (z3 J (z2 J J J (z3 J (z0 J (z7 J (by omega) (z0 J ?_)))))))));refine zx (Qj J J (cs) J) J ?_;refine zz (Ql J (Qh (Q0 (Qc (z2 J J J (z3 J (z0 J (z7 J (by omega) (z2 J J J ?_)))))))));refine Q5 J J J J J J J J (Qe (Q1 (Q0 (Qc (z0 J (z8 J (by omega) (z1 J (zz ?_))))))))
    refine ⟨_,(by omega),(fun (k : Nat) (y : Int) => (⟨_,[(2,.o (.c (.ptr 0 0))),(3,.o (.c (.ptr 1 0))),(4,.o (.c (.ptr 2 0))),(6,I s),(7,B b1),(8,I e),(9,I ((M : Int) - k))],[.box ((Enc.e l).map (V1.rd [])),.box (stB b.Kind b.Owner X1 y (if b1 = true then 0 else b.VX) b.VY b.Aim b.Life b.Timer),.box (stB 0 0 0 0 0 0 0 0 0)]⟩ : St)) (k + 1) (y + e),⟨k + 1,y + e,J,⟨by omega,hh,by rw [show M - (k + 1) = m by omega]; exact hsl⟩,J⟩,Xu [0,1,2] (by decide) J (by kernel_rfl) (.c J (.c J (.c J (.c J (.c J (.c J (.cons (by rw [show ((M : Int) - ((k + 1 : Nat) : Int)) = (M : Int) - k - 1 by omega]; rfl) (.nil))))))))⟩
  ·have hb : decide ((0 : Int) < (M : Int) - k) = false := decide_eq_false (by omega)
   rw [show M - k = 0 by omega,slide] at hsl
   obtain ⟨rfl,rfl⟩ := Prod.mk.inj hsl
   refine Qd (zy (z0 J (z9c J (by assumption) (zz (Ql J (Q9 (T_x (T_x (Xj ?_)))))))))
   exact Mid.n (Xu [0,1,2] (by decide) J (by kernel_rfl) (.c J (.c J (.c J (.c J (.cons (by cases b1 <;> rfl) (.nil)))))))
 refine zy (z4 J J J (z0 J ?_));refine Qy J J J J J J J J J (z1 J (zz (Xa (F_r ?_))))
 exact Xk J J J J J (Xs [] (by decide) J J J)
end
end Go.Proofs.YtcjclaoogdblbaaDoor
