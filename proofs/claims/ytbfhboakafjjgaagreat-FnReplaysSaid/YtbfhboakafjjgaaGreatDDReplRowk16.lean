/-
  Parts of the proof (rules, data, and what functions of the program and of the reference return), among them: What a valid level is, in the program and in the reference; What a valid level is: the program's LevelOk.
  Conditions: those that each theorem names.
-/
import Derived.Test.YtbfhboakafjjgaaGreatDDReplRowk15
set_option linter.unusedVariables false
set_option linter.unusedSimpArgs false
set_option maxRecDepth 8000
set_option maxHeartbeats 8000000
namespace Go.Proofs.YtbfhboakafjjgaaGreat
section
open Go.RowKit

structure TBody where
 Kind : Int
 Owner : Int
 X : Int
 Y : Int
 VX : Int
 VY : Int
 Aim : Int
 Life : Int
 Timer : Int
 deriving DecidableEq
instance : Enc TBody := ⟨9,by omega,fun x => [.v (.int .i64 x.Kind),.v (.int .i64 x.Owner),.v (.int .i64 x.X),.v (.int .i64 x.Y),.v (.int .i64 x.VX),.v (.int .i64 x.VY),.v (.int .i64 x.Aim),.v (.int .i64 x.Life),.v (.int .i64 x.Timer)],fun _ => rfl,fun x => Enc.gd x.Kind ∧ Enc.gd x.Owner ∧ Enc.gd x.X ∧ Enc.gd x.Y ∧ Enc.gd x.VX ∧ Enc.gd x.VY ∧ Enc.gd x.Aim ∧ Enc.gd x.Life ∧ Enc.gd x.Timer,fun x => 0⟩
theorem TBody.same {x y : TBody} (h0 : x.Kind = y.Kind) (h1 : x.Owner = y.Owner) (h2 : x.X = y.X) (h3 : x.Y = y.Y) (h4 : x.VX = y.VX) (h5 : x.VY = y.VY) (h6 : x.Aim = y.Aim) (h7 : x.Life = y.Life) (h8 : x.Timer = y.Timer) : x = y := by cases x; cases y; simp_all
structure TWorld where
 Level : TLevel
 Tick : Int
 Seed : Int
 Scores : (List Int)
 Bodies : (List TBody)
 deriving DecidableEq
instance : Enc TWorld := ⟨5,by omega,fun x => [sl x.Level.Rows,.v (.int .i64 x.Tick),.v (.int .i64 x.Seed),sl x.Scores,sl x.Bodies],fun _ => rfl,fun x => Enc.gd x.Level ∧ Enc.gd x.Tick ∧ Enc.gd x.Seed ∧ Enc.gd x.Scores ∧ Enc.gd x.Bodies,fun x => Enc.wt x.Level + Enc.wt x.Scores + Enc.wt x.Bodies⟩
theorem TWorld.same {x y : TWorld} (h0 : x.Level = y.Level) (h1 : x.Tick = y.Tick) (h2 : x.Seed = y.Seed) (h3 : x.Scores = y.Scores) (h4 : x.Bodies = y.Bodies) : x = y := by cases x; cases y; simp_all
structure TSpectator where
 World : TWorld
 Gaps : Int
 deriving DecidableEq
instance : Enc TSpectator := ⟨6,by omega,fun x => [sl x.World.Level.Rows,.v (.int .i64 x.World.Tick),.v (.int .i64 x.World.Seed),sl x.World.Scores,sl x.World.Bodies,.v (.int .i64 x.Gaps)],fun _ => rfl,fun x => Enc.gd x.World ∧ Enc.gd x.Gaps,fun x => Enc.wt x.World⟩
theorem TSpectator.same {x y : TSpectator} (h0 : x.World = y.World) (h1 : x.Gaps = y.Gaps) : x = y := by cases x; cases y; simp_all

/-! ### Marks -/
end
section
open Go.RowKit

def inR (n lo hi : Int) : Bool := decide (lo ≤ n) && decide (n ≤ hi)
theorem Y3 {n lo hi : Int} : inR n lo hi = true ↔ lo ≤ n ∧ n ≤ hi := by simp [inR]
theorem Xv (n lo hi : Int) : Con Tryz.prog 54 [] [ai n,ai lo,ai hi] [] (B (inR n lo hi)) := by
 refine Con.of Tryz.func54 J Tryz.ntmps54 J (fun E => ?_)
 refine zy (z1 J (zz (zy (z0 J (z0 J (zx (q_geq J J J J) J (z0 J ?_)))))));refine zx (Qt.grdT J J J .stop (fun hgrd => Qa J J J)) J ?_;refine zx (Qt.grdT J J J (.hit .stop) (fun hgrd => Qa J J J)) J ?_;refine zx (Qt.grdT J J J (.hit (.hit .stop)) (fun hgrd => q_leq J J J J)) J ?_;refine zx (Zg J J J J) J (z1 J (zz (Xa (F_r ?_))))
 exact Xp J J (X5 [] (by decide) J J J)
theorem S_in (n lo hi : Int) : Con Tryz.prog 95 [] [ai n,ai lo,ai hi] [] (B (inR n lo hi)) := by
 refine Con.of Tryz.func95 J Tryz.ntmps95 J (fun E => ?_)
 refine zy (z1 J (zz (zy (z0 J (z0 J (zx (q_geq J J J J) J (z0 J ?_)))))));refine zx (Qt.grdT J J J .stop (fun hgrd => Qa J J J)) J ?_;refine zx (Qt.grdT J J J (.hit .stop) (fun hgrd => Qa J J J)) J ?_;refine zx (Qt.grdT J J J (.hit (.hit .stop)) (fun hgrd => q_leq J J J J)) J ?_;refine zx (Zg J J J J) J (z1 J (zz (Xa (F_r ?_))))
 exact Xp J J (X5 [] (by decide) J J J)

section
variable {α : Type} {p : α → Bool} {xs : List α} {k : Nat}
theorem all_next (h : (xs.take k).all p = true) (hk : k < xs.length) (hp : p xs[k] = true) : (xs.take (k + 1)).all p = true := by
 rw [List.take_succ_eq_append_getElem hk,List.all_append,h]
 simp [hp]
theorem all_no (hk : k < xs.length) (hp : p xs[k] = false) : xs.all p = false := by
 rw [List.all_eq_false]
 exact ⟨_,List.getElem_mem hk,by simp [hp]⟩
theorem all_end (h : (xs.take k).all p = true) (hk : xs.length ≤ k) : xs.all p = true := by rwa [List.take_of_length_le hk] at h
end
def inOk (xs : List Int) : Bool := xs.all fun n => inR n 0 15
def rowOk (xs : List Int) (n : Int) : Bool := decide ((xs.length : Int) = n) && inOk xs

theorem I_inputsOk (xs : List Int) (hn : Enc.gd xs) : Con Tryz.prog 107 [] [al xs] [] (B (inOk xs)) := by
 have hn1 := hn.1
 have hlx := Yp xs
 refine Con.of Tryz.func107 J Tryz.ntmps107 J (fun E => ?_)
 refine zy (z1 J (zz (Qd (zy (z0 J (zx (Zw J J J) J (z0 J (Qe ?_))))))));refine Q0 (Qk ?_);refine A_lq (fun m st => ∃ k : Nat,k + m = xs.length ∧ ((xs.take k).all (fun n => inR n 0 15) = true) ∧ st = (⟨_,[(5,L xs),(6,I (els xs).length),(7,I k)],[]⟩ : St)) (xs.length) ⟨_,⟨0,by omega,by simp,J⟩,W_gj [] (by kernel_rfl)⟩ ?_
 rintro m_A _ ⟨k,hk_A,hp_A,rfl⟩
 refine zy (zx (Z1 J J J J) J (zz (Qd ?_)))
 refine Xb J (fun h => ?_) (fun h => ?_)
 ·have h3 : k < xs.length := by have := of_decide_eq_true h; omega
  have hat := Yo h3
  refine Qh (Q0 (Qd (Qk (zy (zx (Q2 J J J J (by omega) (by assumption) J) J (zx (Z0 J J J J) J (z1 J (zz (Qd ?_)))))))));refine Qc (z0 J ?_);refine zx (Qj J J (Xv xs[k] 0 15) J) J ?_;refine zn J (zz ?_)
  refine Xb J (fun h4 => ?_) (fun h4 => ?_)
  ·refine zy (z1 rfl (zz (Xa (B_r (T_r (T_r (B_r ?_)))))))
   refine T_r (F_r ?_)
   exact Xp J J (X5 [] (by decide) J J (Xk (all_no h3 (by simpa using h4)).symm))
  ·refine Qh (Q1 (Q0 (Qc (z7 rfl (by omega) (z0 rfl (Qe ?_))))))
   refine Q0 ?_
   exact ⟨xs.length - (k + 1),by omega,_,⟨k + 1,by omega,all_next hp_A h3 (by simpa using h4),J⟩,W_gj [] (by kernel_rfl)⟩
 ·have h3 : ¬ ((k : Int) < (els xs).length) := of_decide_eq_false h
  refine Q9 (T_x (T_x (Xl (Q0 (zy (z1 J (zz (Xa (F_r ?_)))))))))
  exact Xp J J (X5 [] (by decide) J J (Xk (all_end hp_A (by omega)).symm))
theorem I_rowOk (xs : List Int) (n : Int) (hn : Enc.gd xs) : Con Tryz.prog 55 [] [al xs,ai n] [] (B (rowOk xs n)) := by
 have hlx := Yp xs
 refine Con.of Tryz.func55 J Tryz.ntmps55 J (fun E => ?_)
 refine zy (z1 J (zz (zy (z0 J (zx (Zw J J J) J (z0 J (zx (Zq J J J J) J (z0 J ?_))))))));refine zx (Qt.grdT J J J .stop (fun hgrd => Qa J J J)) J ?_;refine zx (Qt.grdT J J J (.hit .stop) (fun hgrd => Qj J J (I_inputsOk xs hn) J)) J ?_;refine zx (Zg J J J J) J (z1 J (zz (Xa (F_r ?_))))
 exact Xp J J (X5 [] (by decide) J J (Xk (by rw [hlx]; rfl)))
theorem S_rowOk (xs : List Int) (n : Int) (hn : Enc.gd xs) : Con Tryz.prog 50 [] [al xs,ai n] [] (B (rowOk xs n)) := by
 have hn1 := hn.1
 have hlx := Yp xs
 refine Con.of Tryz.func50 J Tryz.ntmps50 J (fun E => ?_)
 refine zy (z1 J (zz (Qd (zy (z1 J (zz (Qk ?_)))))));refine A_lq (fun m st => ∃ k : Nat,k + m = xs.length ∧ ((xs.take k).all (fun n => inR n 0 15) = true) ∧ st = (⟨_,[(0,L xs),(1,I n),(5,I k)],[]⟩ : St)) (xs.length) ⟨_,⟨0,by omega,by simp,J⟩,W_gj [] (by kernel_rfl)⟩ ?_
 rintro m_A _ ⟨k,hk_A,hp_A,rfl⟩
 refine Qd (zy (z0 J (z0 J (zx (Zw J J J) J (zx (Z1 J J J J) J (zz ?_))))))
 refine Xb J (fun h => ?_) (fun h => ?_)
 ·have h3 : k < xs.length := by have := of_decide_eq_true h; omega
  have hat := Yo h3
  refine Qh (Q0 (Qd (Qk (zy (z0 J (z0 J (zx (Q2 J J J J (by omega) (by assumption) J) J (zx (Z0 J J J J) J ?_))))))));refine zx (Qj J J (S_in xs[k] 0 15) J) J ?_;refine zn J (zz ?_)
  refine Xb J (fun h4 => ?_) (fun h4 => ?_)
  ·refine zy (z1 rfl (zz (Xa (B_r (T_r (T_r (B_r ?_)))))))
   refine T_r (F_r ?_)
   exact Xp J J (X5 [] (by decide) J J (Xk (by unfold rowOk inOk; rw [all_no h3 (by simpa using h4)]; simp)))
  ·refine Qh (Q1 (Q0 (Qc (z0 rfl (z7 rfl (by omega) ?_)))))
   refine z1 J (zz ?_)
   exact ⟨xs.length - (k + 1),by omega,_,⟨k + 1,by omega,all_next hp_A h3 (by simpa using h4),J⟩,W_gj [] (by kernel_rfl)⟩
 ·have h3 : ¬ ((k : Int) < (els xs).length) := of_decide_eq_false h
  refine Q9 (T_x (T_x (Xl (Q0 (zy (z0 J (zx (Zw J J J) J (z0 J (zx (Zq J J J J) J (z1 J ?_))))))))));refine zz (Xa (F_r ?_))
  exact Xp J J (X5 [] (by decide) J J (Xk (by unfold rowOk inOk; rw [all_end hp_A (by omega),hlx]; simp)))
end
section
open Go.RowKit

abbrev Seen := Bool × Bool × Bool × Bool
def tileM (e : Bool) (t : Int) (s : Seen × Bool) : Option (Seen × Bool) :=
 if t = 35 then some s else if e then none else
 if t = 49 then (if s.1.1 then none else some ((true,s.1.2),true)) else
 if t = 50 then (if s.1.2.1 then none else some ((s.1.1,true,s.1.2.2),true)) else
 if t = 51 then (if s.1.2.2.1 then none else some ((s.1.1,s.1.2.1,true,s.1.2.2.2),true)) else
 if t = 52 then (if s.1.2.2.2 then none else some ((s.1.1,s.1.2.1,s.1.2.2.1,true),true)) else
 if t = 111 ∨ t = 46 then some (s.1,true) else none
def colsM (row : ByteArray) (er : Bool) (w : Nat) (s : Seen × Bool) : Nat → Option (Seen × Bool)
 | 0 => some s
 | c + 1 => match colsM row er w s c with
  | none => none
  | some s' => tileM (er || decide (c = 0) || decide (c + 1 = w)) (byteAt row c) s'
def rowsM (rows : List ByteArray) (w : Nat) : Nat → Option (Seen × Bool)
 | 0 => some ((false,false,false,false),false)
 | r + 1 => match rowsM rows w r with
  | none => none
  | some s => match rows[r]? with
   | none => none
   | some row => if row.size = w then colsM row (decide (r = 0) || decide (r + 1 = rows.length)) w s w else none
def widthM (rows : List ByteArray) : Nat := match rows[0]? with
 | some row => row.size
 | none => 0
def levelOk (l : TLevel) : Bool := decide (3 ≤ l.Rows.length) && decide (l.Rows.length ≤ 12) && decide (4 ≤ widthM l.Rows) && decide (widthM l.Rows ≤ 20) && match rowsM l.Rows (widthM l.Rows) l.Rows.length with
 | some s => s.2
 | none => false

@[reducible] def vb (b : Bool) : V1 := .rd [] (.v (.bool b))
section
variable {rows : List ByteArray} {row : ByteArray} {w k c : Nat} {s s' : Seen × Bool} {er : Bool}
theorem rows_none {n : Nat} (h : rowsM rows w k = none) (hk : k ≤ n) : rowsM rows w n = none := by
 induction n with
 | zero => have : k = 0 := by omega
           subst this; exact h
 | succ n ih =>
  rcases Nat.lt_or_ge n k with h1 | h1
  ·have : k = n + 1 := by omega
   subst this; exact h
  ·simp [rowsM,ih h1]
theorem cols_none {n : Nat} (h : colsM row er w s c = none) (hc : c ≤ n) : colsM row er w s n = none := by
 induction n with
 | zero => have : c = 0 := by omega
           subst this; exact h
 | succ n ih =>
  rcases Nat.lt_or_ge n c with h1 | h1
  ·have : c = n + 1 := by omega
   subst this; exact h
  ·simp [colsM,ih h1]
theorem rows_next (h : rowsM rows w k = some s) (hk : k < rows.length) (hw : rows[k].size = w) : rowsM rows w (k + 1) = colsM rows[k] (decide (k = 0) || decide (k + 1 = rows.length)) w s w := by
 rw [rowsM,h]
 simp [List.getElem?_eq_getElem hk,hw]
theorem rows_bad (hk : k < rows.length) (hw : rows[k].size ≠ w) : rowsM rows w (k + 1) = none := by
 rw [rowsM]
 cases rowsM rows w k with
 | none => rfl
 | some s => simp [List.getElem?_eq_getElem hk,hw]
theorem cols_next (h : colsM row er w s c = some s') : colsM row er w s (c + 1) = tileM (er || decide (c = 0) || decide (c + 1 = w)) (byteAt row c) s' := by
 rw [colsM,h]
theorem level_no {l : TLevel} (hk : k < l.Rows.length) (hw : widthM l.Rows = w) (h : rowsM l.Rows w (k + 1) = none) : levelOk l = false := by
 unfold levelOk
 rw [hw,rows_none h (by omega)]
 simp
theorem width_at (h : 0 < rows.length) : widthM rows = rows[0].size := by simp [widthM,List.getElem?_eq_getElem h]
end
end
section
open Go.RowKit

theorem Xt (x : TLevel) (hg : Enc.gd x) : Con Tryz.prog 53 [] [ag x] [] (B (levelOk x)) := by
 obtain ⟨rows⟩ := x
 have hn : Enc.gd rows := hg
 have hn1 := hn.1
 have hlx := Yp rows
 refine Con.of Tryz.func53 J Tryz.ntmps53 J (fun E => ?_)
 refine zy (M1 (Qq J J J J) J J (z1 J (zz (Qd (zy (z2 J J J (z3 J (zx (Zw J J J) J ?_))))))));refine zx (Z1 J J J J) J (z0 J ?_);refine zx (Qt.grdF J J J .stop (fun hgrd => Qf J J J J (by decide))) J ?_;refine zx (Qt.grdF J J J (.hit .stop) (fun hgrd => Qg J J J J J)) J ?_;refine zx (Qt.grdF J J J (.hit (.hit .stop)) (fun hgrd => Zw J J J)) J ?_;refine zx (Qt.grdF J J J (.hit (.hit (.hit .stop))) (fun hgrd => Zu J J J J)) J ?_;refine zx (Z5 J J J J) J (zz ?_)
 refine Xb J (fun h => ?_) (fun h => ?_)
 ·simp only [Bool.or_eq_true,decide_eq_true_eq] at h
  refine zy (z1 J (zz (Xa (T_r (F_r ?_)))))
  exact Xp J J (X5 [] (by decide) J J (Xk (by simp [levelOk]; omega)))
 simp only [Bool.or_eq_false_iff,decide_eq_false_iff_not] at h
 have h0 : 0 < rows.length := by omega
 have hat0 : (els rows)[(0 : Int).toNat]? = some (Enc.e rows[0]) := Yo h0
 have hw := width_at h0
 refine Qh (Q0 (zy (z2 J J J (z3 J (zx (Q2 J J J J (by omega) (by assumption) J) J (zx (Z0 J J J J) J (zx (Zy J J J) J (z1 J (zz ?_)))))))));refine Qd (zy (z0 J (zx (Z1 J J J J) J (z0 J ?_))));refine zx (Qt.grdF J J J .stop (fun hgrd => Qa J J J)) J ?_;refine zx (Qt.grdF J J J (.hit .stop) (fun hgrd => Zu J J J J)) J ?_;refine zx (Z5 J J J J) J (zz ?_)
 refine Xb J (fun h1 => ?_) (fun h1 => ?_)
 ·simp only [Bool.or_eq_true,decide_eq_true_eq] at h1
  refine zy (z1 J (zz (Xa (T_r (F_r ?_)))))
  exact Xp J J (X5 [] (by decide) J J (Xk (by simp [levelOk]; omega)))
 simp only [Bool.or_eq_false_iff,decide_eq_false_iff_not] at h1
 obtain ⟨w,hw'⟩ : ∃ w,w = rows[0].size := ⟨_,rfl⟩
 rw [← hw'] at hw h1
 refine Qh (Q0 (zy (M1 (Qx J J J) J J (zz (zy (z1 J (zz ?_)))))));refine Qd (zy (z2 J J J (z3 J (zx (Zw J J J) J (z0 J (zz (Qk ?_)))))));refine A_lq (fun m st => ∃ (k : Nat) (s : Seen × Bool),k + m = rows.length ∧ (rowsM rows w k = some s) ∧ st = (⟨_,[(1,.o (.c (.ptr 0 0))),(3,I w),(4,.o (.c (.ptr 1 0))),(5,B s.2),(33,L rows),(34,I (els rows).length),(35,I k)],[.box [.rd [] (sl rows)],.box [vb false,vb s.1.1,vb s.1.2.1,vb s.1.2.2.1,vb s.1.2.2.2]]⟩ : St)) (rows.length) ⟨(fun (k : Nat) (s : Seen × Bool) => (⟨_,[(1,.o (.c (.ptr 0 0))),(3,I w),(4,.o (.c (.ptr 1 0))),(5,B s.2),(33,L rows),(34,I (els rows).length),(35,I k)],[.box [.rd [] (sl rows)],.box [vb false,vb s.1.1,vb s.1.2.1,vb s.1.2.2.1,vb s.1.2.2.2]]⟩ : St)) 0 (((false,false,false,false),false)),⟨0,((false,false,false,false),false),by omega,J,J⟩,X7 [0,1] (by decide) J (by kernel_rfl) (.c J (.cons (Xx (by omega)) (.c J (.c J (.c J (.c J (.c J (.nil))))))))⟩ ?_
 rintro m_A _ ⟨k,s,hk_A,hp_A,rfl⟩
 refine zy (zx (Z1 J J J J) J (zz (Qd ?_)))
 refine Xb J (fun h => ?_) (fun h => ?_)
 ·have h3 : k < rows.length := by have := of_decide_eq_true h; omega
  have hat := Yo h3
  have hgk : rows[k].size ≤ 9223372036854775807 := hn.2 _ (List.getElem_mem h3)
  refine Qh (Q0 (Qd (Qk (zy (z0 J (zx (Q2 J J J J (by omega) (by assumption) J) J (zx (Z0 J J J J) J (z1 J (z1 J (Qe ?_))))))))));refine Q0 (Qd (zy (z0 J (zx (Zy J J J) J (z0 J (zx (Z4 J J J J) J (zz ?_)))))))
  refine Xb J (fun h4 => ?_) (fun h4 => ?_)
  ·have h4 : ¬ rows[k].size = w := by have := of_decide_eq_true h4; omega
   refine zy (z1 J (zz (Xa (T_r (B_r (T_r (T_r (B_r (T_r ?_)))))))));refine F_r ?_
   exact Xp J J (X5 [] (by decide) J J (Xk (level_no (l := ⟨rows⟩) h3 hw (rows_bad h3 h4)).symm))
  have h4 : rows[k].size = w := by have := of_decide_eq_false h4; omega
  have hrn := rows_next hp_A h3 h4
  obtain ⟨er,her⟩ : ∃ er,er = (decide (k = 0) || decide (k + 1 = rows.length)) := ⟨_,rfl⟩
  rw [← her] at hrn
  refine Qh (Q0 (zy (z1 J (zz (Qk ?_)))));refine A_lq (fun m st => ∃ (c : Nat) (u : Seen × Bool),c + m = w ∧ (colsM rows[k] er w s c = some u) ∧ st = (⟨_,[(1,.o (.c (.ptr 0 0))),(3,I w),(4,.o (.c (.ptr 1 0))),(5,B u.2),(6,I k),(7,S rows[k]),(8,I c),(33,L rows),(34,I (els rows).length),(35,I k)],[.box [.rd [] (sl rows)],.box [vb false,vb u.1.1,vb u.1.2.1,vb u.1.2.2.1,vb u.1.2.2.2]]⟩ : St)) (w) ⟨_,⟨0,s,by omega,J,J⟩,W_gj [0,1] (by kernel_rfl)⟩ ?_
  rintro m_D _ ⟨c,u,hk_D,hp_D,rfl⟩
  refine Qd (zy (z0 J (z0 J (zx (Z1 J J J J) J (zz ?_)))))
  refine Xb J (fun h5 => ?_) (fun h5 => ?_)
  ·have h5 : c < w := by have := of_decide_eq_true h5; omega
   have hcn := cols_next hp_D
   obtain ⟨t,ht⟩ : ∃ t,byteAt rows[k] (c : Int).toNat = t := ⟨_,rfl⟩
   rw [show byteAt rows[k] c = t from ht] at hcn
   have htb : 0 ≤ t ∧ t ≤ 255 := ht ▸ Yh _ _
   obtain ⟨⟨sa,sb,sc,sd⟩,so⟩ := u
   obtain ⟨e,he⟩ : ∃ e,e = (er || decide (c = 0) || decide (c + 1 = w)) := ⟨_,rfl⟩
   rw [← he] at hcn
   refine Qh (Q0 (Qd (Qk (zy (z0 J (z0 J (zx (Zn J J J J (by assumption) (by omega)) J (z1 J (zz ?_)))))))));refine zy (z0 J (zx (Zq J J J J) J (z0 J ?_)));refine zx (Qt.grdF J J J .stop (fun hgrd => Qa J J J)) J ?_;refine zx (Qt.grdF J J J (.hit .stop) (fun hgrd => Qf J J J J (by decide))) J ?_;refine zx (Qt.grdF J J J (.hit (.hit .stop)) (fun hgrd => Qg J J J J J)) J ?_;refine zx (Qt.grdF J J J (.hit (.hit (.hit .stop))) (fun hgrd => Zw J J J)) J ?_;refine zx (Qt.grdF J J J (.hit (.hit (.hit (.hit .stop)))) (fun hgrd => Xc J J J J (by omega))) J ?_;refine zx (Qt.grdF J J J (.hit (.hit (.hit (.hit (.hit .stop))))) (fun hgrd => Zq J J J J)) J ?_;refine zx (Z5 J J J J) J (z0 J ?_);refine zx (Qt.grdF J J J .stop (fun hgrd => Qa J J J)) J ?_;refine zx (Qt.grdF J J J (.hit .stop) (fun hgrd => Zq J J J J)) J ?_;refine zx (Z5 J J J J) J (z0 J ?_);refine zx (Qt.grdF J J J .stop (fun hgrd => Qa J J J)) J ?_;refine zx (Qt.grdF J J J (.hit .stop) (fun hgrd => Qa J J J)) J ?_;refine zx (Qt.grdF J J J (.hit (.hit .stop)) (fun hgrd => Xc J J J J (by omega))) J ?_;refine zx (Qt.grdF J J J (.hit (.hit (.hit .stop))) (fun hgrd => Zq J J J J)) J ?_;refine zx (Z5 J J J J) J (z1 J (zz (Qd (zy (z0 J (z0 J ?_))))));refine zx (Qt.grdT J J J .stop (fun hgrd => Qa J J J)) J ?_;refine zx (Qt.grdT J J J (.hit .stop) (fun hgrd => Z4 J J J J)) J ?_;refine zx (Zg J J J J) J (zz ?_)
   have hee : (decide ((k : Int) = 0) || decide ((k : Int) = ((els rows).length : Int) - 1) || decide ((c : Int) = 0) || decide ((c : Int) = (w : Int) - 1)) = e := by
    rw [he,her,hlx]
    have g1 : decide ((k : Int) = 0) = decide (k = 0) := by simp
    have g2 : decide ((k : Int) = (rows.length : Int) - 1) = decide (k + 1 = rows.length) := decide_eq_decide.2 (by omega)
    have g3 : decide ((c : Int) = 0) = decide (c = 0) := by simp
    have g4 : decide ((c : Int) = (w : Int) - 1) = decide (c + 1 = w) := decide_eq_decide.2 (by omega)
    rw [g1,g2,g3,g4]
   clear he her
   have hbad : colsM rows[k] er w s (c + 1) = none → levelOk ⟨rows⟩ = false := fun hc => level_no (l := ⟨rows⟩) h3 hw (hrn.trans (cols_none hc (by omega)))
   refine Xb J (fun h6 => ?_) (fun h6 => ?_)
   ·rw [hee] at h6
    simp only [Bool.and_eq_true,decide_eq_true_eq] at h6
    refine zy (z1 J (zz (Xa (T_r (B_r (T_r (T_r (B_r (B_r ?_)))))))));refine T_r (T_r (B_r (T_r (F_r ?_))))
    exact Xp J J (X5 [] (by decide) J J (Xk (hbad (hcn.trans (by simp [tileM,h6]))).symm))
   rw [hee] at h6
   have h7 : t = 35 ∨ e = false := by
    simp only [Bool.and_eq_false_iff,decide_eq_false_iff_not,Classical.not_not] at h6
    exact h6.symm
   clear h6 hee
   refine AWP.pre (st' := (⟨_,[(1,.o (.c (.ptr 0 0))),(3,I w),(4,.o (.c (.ptr 1 0))),(5,B so),(6,I k),(7,S rows[k]),(8,I c),(9,VI .u8 t),(33,L rows),(34,I (els rows).length),(35,I k)],[.box [.rd [] (sl rows)],.box [vb false,vb sa,vb sb,vb sc,vb sd]]⟩ : St)) ?_ (W_gj [0,1] (by kernel_rfl))
   rcases h7 with rfl | h7
   ·refine Qh (Q0 (Qd (Qk (zy (z0 rfl ?_)))))
    refine zx (Zt (b := false) J J J J (by decide)) J ?_;refine z0 J (z6 J (z6 J (zpF J (z1 J (zz (Ql J (zy (z0 J ?_))))))));refine zx (Qw (b := false) J J J J (by decide)) J ?_;refine z0 J (z6 J (z6 J (zpF J (z0 J (z6 J (z6 J (zpF J (z1 J (zz (Ql J ?_))))))))));refine Qh (Q1 (Q0 (zy (z0 J ?_))));refine zx (Qw (b := false) J J J J (by decide)) J ?_;refine zz (Ql J (Qh (Q1 (Q0 (Qc (z0 J (z7 J (by omega) (z1 J (zz ?_)))))))))
    exact ⟨w - (c + 1),by omega,_,⟨c + 1,((sa,sb,sc,sd),so),by omega,hcn.trans (by simp [tileM]),J⟩,W_gj [0,1] (by kernel_rfl)⟩
   subst h7
   rcases (by omega : t = 35 ∨ t = 49 ∨ t = 50 ∨ t = 51 ∨ t = 52 ∨ t = 111 ∨ t = 46 ∨ (t ≠ 35 ∧ t ≠ 49 ∧ t ≠ 50 ∧ t ≠ 51 ∧ t ≠ 52 ∧ t ≠ 111 ∧ t ≠ 46)) with rfl | rfl | rfl | rfl | rfl | rfl | rfl | ht7
   ·refine Qh (Q0 (Qd (Qk (zy (z0 rfl ?_)))))
    refine zx (Zt (b := false) J J J J (by decide)) J ?_;refine z0 J (z6 J (z6 J (zpF J (z1 J (zz (Ql J (zy (z0 J ?_))))))));refine zx (Qw (b := false) J J J J (by decide)) J ?_;refine z0 J (z6 J (z6 J (zpF J (z0 J (z6 J (z6 J (zpF J (z1 J (zz (Ql J ?_))))))))));refine Qh (Q1 (Q0 (zy (z0 J ?_))));refine zx (Qw (b := false) J J J J (by decide)) J ?_;refine zz (Ql J (Qh (Q1 (Q0 (Qc (z0 J (z7 J (by omega) (z1 J (zz ?_)))))))))
    exact ⟨w - (c + 1),by omega,_,⟨c + 1,((sa,sb,sc,sd),so),by omega,hcn.trans (by simp [tileM]),J⟩,W_gj [0,1] (by kernel_rfl)⟩
   ·refine Qh (Q0 (Qd (Qk (zy (z0 rfl ?_)))))
    refine zx (Zt (b := true) J J J J (by decide)) J ?_;refine z0 J (z5 J (z0 J (z5 J ?_)));refine zx (Zz (b := true) J J J J (by decide)) J ?_;refine zpT J (z1 J (zz (Qm J (Qd (zy (z0 J (zx (Z8 J J J J (by omega)) J (zx (q_aidx J J J J (by omega)) J (z3 J ?_)))))))));refine zz ?_
    refine Xb J (fun h8 => ?_) (fun h8 => ?_)
    ·have h8 : sa = true := h8
     subst h8
     refine zy (z1 J (zz (Xa (T_r (B_r (T_r (B_r (T_r (T_r ?_)))))))));refine B_r (B_r (T_r (T_r (B_r (T_r (F_r ?_))))))
     exact Xp J J (X5 [] (by decide) J J (Xk (hbad (hcn.trans (by simp [tileM]))).symm))
    ·have h8 : sa = false := h8
     subst h8
     refine Qh (Q0 (Qc (z0 J (zx (Z8 J J J J (by omega)) J (zx (q_aidx J J J J (by omega)) J ?_)))));refine Q5 J J J J J J J J (Qe (Q1 (Q0 (zy (z0 J ?_)))));refine zx (Qw (b := true) J J J J (by decide)) J ?_;refine zz (Qm J (Qc (z1 J (Qe (Q1 (Q0 (Qc (z0 J (z7 J (by omega) (z1 J ?_))))))))));refine zz ?_
     exact ⟨w - (c + 1),by omega,_,⟨c + 1,((true,sb,sc,sd),true),by omega,hcn.trans (by simp [tileM]),J⟩,W_gj [0,1] (by kernel_rfl)⟩
   ·refine Qh (Q0 (Qd (Qk (zy (z0 rfl ?_)))))
    refine zx (Zt (b := true) J J J J (by decide)) J ?_;refine z0 J (z5 J (z0 J (z5 J ?_)));refine zx (Zz (b := true) J J J J (by decide)) J ?_;refine zpT J (z1 J (zz (Qm J (Qd (zy (z0 J (zx (Z8 J J J J (by omega)) J (zx (q_aidx J J J J (by omega)) J (z3 J ?_)))))))));refine zz ?_
    refine Xb J (fun h8 => ?_) (fun h8 => ?_)
    ·have h8 : sb = true := h8
     subst h8
     refine zy (z1 J (zz (Xa (T_r (B_r (T_r (B_r (T_r (T_r ?_)))))))));refine B_r (B_r (T_r (T_r (B_r (T_r (F_r ?_))))))
     exact Xp J J (X5 [] (by decide) J J (Xk (hbad (hcn.trans (by simp [tileM]))).symm))
    ·have h8 : sb = false := h8
     subst h8
     refine Qh (Q0 (Qc (z0 J (zx (Z8 J J J J (by omega)) J (zx (q_aidx J J J J (by omega)) J ?_)))));refine Q5 J J J J J J J J (Qe (Q1 (Q0 (zy (z0 J ?_)))));refine zx (Qw (b := true) J J J J (by decide)) J ?_;refine zz (Qm J (Qc (z1 J (Qe (Q1 (Q0 (Qc (z0 J (z7 J (by omega) (z1 J ?_))))))))));refine zz ?_
     exact ⟨w - (c + 1),by omega,_,⟨c + 1,((sa,true,sc,sd),true),by omega,hcn.trans (by simp [tileM]),J⟩,W_gj [0,1] (by kernel_rfl)⟩
   ·refine Qh (Q0 (Qd (Qk (zy (z0 rfl ?_)))))
    refine zx (Zt (b := true) J J J J (by decide)) J ?_;refine z0 J (z5 J (z0 J (z5 J ?_)));refine zx (Zz (b := true) J J J J (by decide)) J ?_;refine zpT J (z1 J (zz (Qm J (Qd (zy (z0 J (zx (Z8 J J J J (by omega)) J (zx (q_aidx J J J J (by omega)) J (z3 J ?_)))))))));refine zz ?_
    refine Xb J (fun h8 => ?_) (fun h8 => ?_)
    ·have h8 : sc = true := h8
     subst h8
     refine zy (z1 J (zz (Xa (T_r (B_r (T_r (B_r (T_r (T_r ?_)))))))));refine B_r (B_r (T_r (T_r (B_r (T_r (F_r ?_))))))
     exact Xp J J (X5 [] (by decide) J J (Xk (hbad (hcn.trans (by simp [tileM]))).symm))
    ·have h8 : sc = false := h8
     subst h8
     refine Qh (Q0 (Qc (z0 J (zx (Z8 J J J J (by omega)) J (zx (q_aidx J J J J (by omega)) J ?_)))));refine Q5 J J J J J J J J (Qe (Q1 (Q0 (zy (z0 J ?_)))));refine zx (Qw (b := true) J J J J (by decide)) J ?_;refine zz (Qm J (Qc (z1 J (Qe (Q1 (Q0 (Qc (z0 J (z7 J (by omega) (z1 J ?_))))))))));refine zz ?_
     exact ⟨w - (c + 1),by omega,_,⟨c + 1,((sa,sb,true,sd),true),by omega,hcn.trans (by simp [tileM]),J⟩,W_gj [0,1] (by kernel_rfl)⟩
   ·refine Qh (Q0 (Qd (Qk (zy (z0 rfl ?_)))))
    refine zx (Zt (b := true) J J J J (by decide)) J ?_;refine z0 J (z5 J (z0 J (z5 J ?_)));refine zx (Zz (b := true) J J J J (by decide)) J ?_;refine zpT J (z1 J (zz (Qm J (Qd (zy (z0 J (zx (Z8 J J J J (by omega)) J (zx (q_aidx J J J J (by omega)) J (z3 J ?_)))))))));refine zz ?_
    refine Xb J (fun h8 => ?_) (fun h8 => ?_)
    ·have h8 : sd = true := h8
     subst h8
     refine zy (z1 J (zz (Xa (T_r (B_r (T_r (B_r (T_r (T_r ?_)))))))));refine B_r (B_r (T_r (T_r (B_r (T_r (F_r ?_))))))
     exact Xp J J (X5 [] (by decide) J J (Xk (hbad (hcn.trans (by simp [tileM]))).symm))
    ·have h8 : sd = false := h8
     subst h8
     refine Qh (Q0 (Qc (z0 J (zx (Z8 J J J J (by omega)) J (zx (q_aidx J J J J (by omega)) J ?_)))));refine Q5 J J J J J J J J (Qe (Q1 (Q0 (zy (z0 J ?_)))));refine zx (Qw (b := true) J J J J (by decide)) J ?_;refine zz (Qm J (Qc (z1 J (Qe (Q1 (Q0 (Qc (z0 J (z7 J (by omega) (z1 J ?_))))))))));refine zz ?_
     exact ⟨w - (c + 1),by omega,_,⟨c + 1,((sa,sb,sc,true),true),by omega,hcn.trans (by simp [tileM]),J⟩,W_gj [0,1] (by kernel_rfl)⟩
   ·refine Qh (Q0 (Qd (Qk (zy (z0 rfl ?_)))))
    refine zx (Zt (b := true) J J J J (by decide)) J ?_;refine z0 J (z5 J (z0 J (z5 J ?_)));refine zx (Zz (b := false) J J J J (by decide)) J ?_;refine zpT J (z1 J (zz (Ql J (zy (z0 J ?_)))));refine zx (Qw (b := true) J J J J (by decide)) J ?_;refine z0 J (z5 J (z0 J (z5 J ?_)));refine zx (Qw (b := false) J J J J (by decide)) J ?_;refine zpT J (z0 J (z6 J (z6 J (zpF J (z1 J (zz (Ql J (Qh (Q1 (Q0 ?_))))))))));refine zy (z0 J ?_);refine zx (Qw (b := true) J J J J (by decide)) J ?_;refine zz (Qm J (Qc (z1 J (Qe (Q1 (Q0 (Qc (z0 J (z7 J (by omega) (z1 J ?_))))))))));refine zz ?_
    exact ⟨w - (c + 1),by omega,_,⟨c + 1,((sa,sb,sc,sd),true),by omega,hcn.trans (by simp [tileM]),J⟩,W_gj [0,1] (by kernel_rfl)⟩
   ·refine Qh (Q0 (Qd (Qk (zy (z0 rfl ?_)))))
    refine zx (Zt (b := false) J J J J (by decide)) J ?_;refine z0 J (z6 J (z6 J (zpF J (z1 J (zz (Ql J (zy (z0 J ?_))))))));refine zx (Qw (b := true) J J J J (by decide)) J ?_;refine z0 J (z5 J (z0 J (z5 J ?_)));refine zx (Qw (b := true) J J J J (by decide)) J ?_;refine zpT J (z0 J (z5 J (z0 J (z5 J ?_))));refine zx (Qw (b := false) J J J J (by decide)) J ?_;refine zpT J (z1 J (zz (Ql J (Qh (Q1 (Q0 (zy (z0 J ?_))))))));refine zx (Qw (b := true) J J J J (by decide)) J ?_;refine zz (Qm J (Qc (z1 J (Qe (Q1 (Q0 (Qc (z0 J (z7 J (by omega) (z1 J ?_))))))))));refine zz ?_
    exact ⟨w - (c + 1),by omega,_,⟨c + 1,((sa,sb,sc,sd),true),by omega,hcn.trans (by simp [tileM]),J⟩,W_gj [0,1] (by kernel_rfl)⟩
   ·refine Qh (Q0 (Qd (Qk (zy (z0 rfl (zx (q_geq J J J J) rfl ?_))))))
    refine z0 J ?_;refine zx (Qt.grdT J J J .stop (fun hgrd => Qa J J J)) J ?_;refine zx (Qt.grdT J J J (.hit .stop) (fun hgrd => q_leq J J J J)) J ?_;refine zx (Zg J J J J) J (z1 J (zz ?_))
    refine Xb J (fun h8 => ?_) (fun h8 => ?_)
    ·simp only [Bool.and_eq_true,decide_eq_true_eq] at h8
     omega
    refine zy (z0 J (zx (Z4 J J J J) J (z0 J ?_)));refine zx (Qt.grdT J J J .stop (fun hgrd => Qa J J J)) J ?_;refine zx (Qt.grdT J J J (.hit .stop) (fun hgrd => Z4 J J J J)) J ?_;refine zx (Zg J J J J) J (z0 J ?_);refine zx (Qt.grdT J J J .stop (fun hgrd => Qa J J J)) J ?_;refine zx (Qt.grdT J J J (.hit .stop) (fun hgrd => Z4 J J J J)) J ?_;refine zx (Zg J J J J) J (z1 J (zz ?_))
    refine Xb J (fun h9 => ?_) (fun h9 => ?_)
    ·refine zy (z1 rfl (zz (Xa (B_r (T_r (B_r (T_r ?_)))))))
     refine T_r (B_r (B_r (T_r (T_r (B_r (T_r (F_r ?_)))))))
     exact Xp J J (X5 [] (by decide) J J (Xk (hbad (hcn.trans (by simp [tileM,ht7]))).symm))
    ·simp only [Bool.and_eq_false_iff,decide_eq_false_iff_not,Classical.not_not] at h9
     omega
  ·have h5 : c = w := by have := of_decide_eq_false h5; omega
   rw [h5] at hp_D
   rw [hp_D] at hrn
   refine Q9 (T_x (T_x (Xl (Q1 (Q0 (Qc (z7 J (by omega) (z0 J (zz ?_)))))))))
   exact ⟨rows.length - (k + 1),by omega,_,⟨k + 1,u,by omega,hrn,J⟩,W_gj [0,1] (by kernel_rfl)⟩
 ·have h3 : ¬ ((k : Int) < (els rows).length) := of_decide_eq_false h
  have hk : k = rows.length := by omega
  subst hk
  refine Q9 (T_x (T_x (Xl (Q0 (zy (z0 J (z1 J (zz (Xa ?_)))))))));refine F_r ?_
  exact Xp J J (X5 [] (by decide) J J (Xk (by
   unfold levelOk
   rw [hw,hp_A]
   have : 3 ≤ rows.length ∧ rows.length ≤ 12 ∧ 4 ≤ w ∧ w ≤ 20 := by omega
   simp [this])))
end
end Go.Proofs.YtbfhboakafjjgaaGreat
