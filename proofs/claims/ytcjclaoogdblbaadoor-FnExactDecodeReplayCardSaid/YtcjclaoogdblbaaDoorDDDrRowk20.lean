/-
  Parts of the proof (rules, data, and what functions of the program and of the reference return), among them: What a valid level is: the program's LevelOk; What a valid level is: the reference's LevelOk.
  Conditions: those that each theorem names.
-/
import Derived.Test.YtcjclaoogdblbaaDoorDDDrRowk13
import Derived.Test.YtcjclaoogdblbaaDoorDDDrRowk19
set_option linter.unusedSimpArgs false
set_option linter.unusedVariables false
set_option maxHeartbeats 4000000
namespace Go.Proofs.YtcjclaoogdblbaaDoor
section
open Go.RowKit

def joinB (xs : List ByteArray) (sep : ByteArray) : ByteArray := ⟨(Lib.join (xs.map (·.data.toList)) sep.data.toList).toArray⟩
def joinG (xs : List ByteArray) (sep : ByteArray) : Nat → ByteArray
 | 0 => ⟨#[]⟩
 | k + 1 => (if 0 < k then joinG xs sep k ++ sep else joinG xs sep k) ++ (xs.getD k ⟨#[]⟩)
theorem joinG_list (xs : List ByteArray) (sep : ByteArray) : ∀ k,k ≤ xs.length → (joinG xs sep k).data.toList = Lib.join ((xs.map (·.data.toList)).take k) sep.data.toList
 | 0,_ => rfl
 | k + 1,h => by
  have ih := joinG_list xs sep k (by omega)
  have hk : k < xs.length := by omega
  have hx : (xs.map (·.data.toList))[k]? = some xs[k].data.toList := by rw [List.getElem?_map,List.getElem?_eq_getElem hk]; rfl
  have hd : xs.getD k ⟨#[]⟩ = xs[k] := by simp [List.getD_eq_getElem?_getD,hk]
  cases k with
  | zero =>
   rw [joinG,if_neg (by omega),hd,ByteArray.data_append,Array.toList_append,ih,List.take_add_one,hx]
   simp [Lib.join,List.intercalate]
  | succ j =>
   obtain ⟨x,r,hr⟩ : ∃ x r,xs.map (·.data.toList) = x :: r := by
    cases hm : xs.map (·.data.toList) with
    | nil => rw [hm] at hx; simp at hx
    | cons x r => exact ⟨x,r,rfl⟩
   rw [hr] at ih hx ⊢
   rw [joinG,if_pos (by omega),hd,ByteArray.data_append,Array.toList_append,ByteArray.data_append,Array.toList_append,ih,List.take_succ_cons,Lib.join_cons,List.take_succ_cons,Lib.join_cons,Lib.joinTail_take_succ sep.data.toList r j xs[j + 1].data.toList (by simpa using hx)]
   simp [List.append_assoc]
theorem joinG_all (xs : List ByteArray) (sep : ByteArray) : joinG xs sep xs.length = joinB xs sep := by
 have h := joinG_list xs sep xs.length (Nat.le_refl _)
 rw [List.take_of_length_le (by simp)] at h
 rw [joinB,← h]
theorem joinG_size (xs : List ByteArray) (sep : ByteArray) : ∀ k,k ≤ xs.length → (joinG xs sep k).size ≤ wts (xs.take k) + sep.size * k
 | 0,_ => by show (0 : Nat) ≤ _; omega
 | k + 1,h => by
  have ih := joinG_size xs sep k (by omega)
  have hw := wts_take xs k (by omega)
  have hd : xs.getD k ⟨#[]⟩ = xs[k]'(by omega) := by simp [List.getD_eq_getElem?_getD,show k < xs.length by omega]
  have hws : Enc.wt (xs[k]'(by omega)) = (xs[k]'(by omega)).size := rfl
  rw [joinG,X4,hd,hw,hws,Nat.mul_succ]
  split
  ·rw [X4]; omega
  ·omega
end
section
open Go.RowKit

abbrev Seen := Bool × Bool × Bool × Bool
def tileM (e : Bool) (t : Int) (s : Seen × Bool) : Option (Seen × Bool) :=
 if t = 35 then some s else if e then none else
 if t = 49 then (if s.1.1 then none else some ((true,s.1.2),true)) else
 if t = 50 then (if s.1.2.1 then none else some ((s.1.1,true,s.1.2.2),true)) else
 if t = 51 then (if s.1.2.2.1 then none else some ((s.1.1,s.1.2.1,true,s.1.2.2.2),true)) else
 if t = 52 then (if s.1.2.2.2 then none else some ((s.1.1,s.1.2.1,s.1.2.2.1,true),true)) else
 if t = 111 ∨ t = 46 then some (s.1,true) else none
def colsM (row : ByteArray) (er : Bool) (w : Nat) (s : Seen × Bool) : Nat → Option (Seen × Bool)
 | 0 => some s
 | c + 1 => match colsM row er w s c with
  | none => none
  | some s' => tileM (er || decide (c = 0) || decide (c + 1 = w)) (byteAt row c) s'
def rowsM (rows : List ByteArray) (w : Nat) : Nat → Option (Seen × Bool)
 | 0 => some ((false,false,false,false),false)
 | r + 1 => match rowsM rows w r with
  | none => none
  | some s => match rows[r]? with
   | none => none
   | some row => if row.size = w then colsM row (decide (r = 0) || decide (r + 1 = rows.length)) w s w else none
def widthM (rows : List ByteArray) : Nat := match rows[0]? with
 | some row => row.size
 | none => 0
def levelOk (l : TLevel) : Bool := decide (3 ≤ l.Rows.length) && decide (l.Rows.length ≤ 12) && decide (4 ≤ widthM l.Rows) && decide (widthM l.Rows ≤ 20) && match rowsM l.Rows (widthM l.Rows) l.Rows.length with
 | some s => s.2
 | none => false

@[reducible] def vb (b : Bool) : V1 := .rd [] (.v (.bool b))
section
variable {rows : List ByteArray} {row : ByteArray} {w k c : Nat} {s s' : Seen × Bool} {er : Bool}
theorem rows_none {n : Nat} (h : rowsM rows w k = none) (hk : k ≤ n) : rowsM rows w n = none := by
 induction n with
 | zero => have : k = 0 := by omega
           subst this; exact h
 | succ n ih =>
  rcases Nat.lt_or_ge n k with h1 | h1
  ·have : k = n + 1 := by omega
   subst this; exact h
  ·simp [rowsM,ih h1]
theorem cols_none {n : Nat} (h : colsM row er w s c = none) (hc : c ≤ n) : colsM row er w s n = none := by
 induction n with
 | zero => have : c = 0 := by omega
           subst this; exact h
 | succ n ih =>
  rcases Nat.lt_or_ge n c with h1 | h1
  ·have : c = n + 1 := by omega
   subst this; exact h
  ·simp [colsM,ih h1]
theorem rows_next (h : rowsM rows w k = some s) (hk : k < rows.length) (hw : rows[k].size = w) : rowsM rows w (k + 1) = colsM rows[k] (decide (k = 0) || decide (k + 1 = rows.length)) w s w := by
 rw [rowsM,h]
 simp [List.getElem?_eq_getElem hk,hw]
theorem rows_bad (hk : k < rows.length) (hw : rows[k].size ≠ w) : rowsM rows w (k + 1) = none := by
 rw [rowsM]
 cases rowsM rows w k with
 | none => rfl
 | some s => simp [List.getElem?_eq_getElem hk,hw]
theorem cols_next (h : colsM row er w s c = some s') : colsM row er w s (c + 1) = tileM (er || decide (c = 0) || decide (c + 1 = w)) (byteAt row c) s' := by
 rw [colsM,h]
theorem level_no {l : TLevel} (hk : k < l.Rows.length) (hw : widthM l.Rows = w) (h : rowsM l.Rows w (k + 1) = none) : levelOk l = false := by
 unfold levelOk
 rw [hw,rows_none h (by omega)]
 simp
theorem width_at (h : 0 < rows.length) : widthM rows = rows[0].size := by simp [widthM,List.getElem?_eq_getElem h]
end
end
section
open Go.RowKit

theorem I_LevelOk (x : TLevel) (hg : Enc.gd x) : Con Tryd.prog 94 [] [ag x] [] (B (levelOk x)) := by
 obtain ⟨rows⟩ := x
 have hn : Enc.gd rows := hg
 have hn1 := hn.1
 have hlx := X8 rows
 refine Con.of Tryd.func94 J Tryd.ntmps94 J (fun E => ?_)
 refine zy (Ki (Qq J J J J) J (z1 J (zz (Qd (zy (z2 J J J (z3 J (zx (Yw J J J) J ?_))))))));refine zx (Zl J) J (z0 J ?_);refine zx (Qt.grdF J J J .stop (fun hgrd => Zt J J)) J ?_;refine zx (Kq J (.hit .stop) (fun hgrd => Qg J J J J J)) J ?_;refine zx (Kq J (.hit (.hit .stop)) (fun hgrd => Yw J J J)) J ?_;refine zx (Kq J (.hit (.hit (.hit .stop))) (fun hgrd => q_gtr J J J J)) J ?_;refine zx (q_or J J J J) J (zz ?_)
 refine Q9 J (fun h => ?_) (fun h => ?_)
 ·simp only [Bool.or_eq_true,decide_eq_true_eq] at h
  refine zy (z1 J (zz (Q8 (T_r (F_r ?_)))))
  exact Ke J (Kf [] J J (Xf (by simp [levelOk]; omega)))
 simp only [Bool.or_eq_false_iff,decide_eq_false_iff_not] at h
 have h0 : 0 < rows.length := by omega
 have hat0 : (els rows)[(0 : Int).toNat]? = some (Enc.e rows[0]) := X7 h0
 have hw := width_at h0
 refine Qh (Qz (zy (z2 J J J (z3 J (zx (Q1 J J J J (by omega) (by assumption) J) J (zx (Kc J) J (zx (Yy J J J) J (z1 J (zz ?_)))))))));refine Qd (zy (z0 J (zx (Zl J) J (z0 J ?_))));refine zx (Qt.grdF J J J .stop (fun hgrd => Zr J)) J ?_;refine zx (Kq J (.hit .stop) (fun hgrd => q_gtr J J J J)) J ?_;refine zx (q_or J J J J) J (zz ?_)
 refine Q9 J (fun h1 => ?_) (fun h1 => ?_)
 ·simp only [Bool.or_eq_true,decide_eq_true_eq] at h1
  refine zy (z1 J (zz (Q8 (T_r (F_r ?_)))))
  exact Ke J (Kf [] J J (Xf (by simp [levelOk]; omega)))
 simp only [Bool.or_eq_false_iff,decide_eq_false_iff_not] at h1
 obtain ⟨w,hw'⟩ : ∃ w,w = rows[0].size := ⟨_,rfl⟩
 rw [← hw'] at hw h1
 refine Qh (Qz (zy (Ki (Ks J J) J (zz (zy (z1 J (zz ?_)))))));refine Qd (zy (z2 J J J (z3 J (zx (Yw J J J) J (z0 J (zz (Qk ?_)))))));refine Xe (fun m st => ∃ (k : Nat) (s : Seen × Bool),k + m = rows.length ∧ (rowsM rows w k = some s) ∧ st = (⟨_,[(1,.o (.c (.ptr 0 0))),(3,I w),(4,.o (.c (.ptr 1 0))),(5,B s.2),(33,L rows),(34,I (els rows).length),(35,I k)],[.box [.rd [] (sl rows)],.box [vb false,vb s.1.1,vb s.1.2.1,vb s.1.2.2.1,vb s.1.2.2.2]]⟩ : St)) (rows.length) ⟨(fun (k : Nat) (s : Seen × Bool) => (⟨_,[(1,.o (.c (.ptr 0 0))),(3,I w),(4,.o (.c (.ptr 1 0))),(5,B s.2),(33,L rows),(34,I (els rows).length),(35,I k)],[.box [.rd [] (sl rows)],.box [vb false,vb s.1.1,vb s.1.2.1,vb s.1.2.2.1,vb s.1.2.2.2]]⟩ : St)) 0 (((false,false,false,false),false)),⟨0,((false,false,false,false),false),by omega,J,J⟩,Z7 [0,1] J (.c J (.cons (Kt) (.c J (.c J (.c J (.c J (.c J (.nil))))))))⟩ ?_
 rintro m_A _ ⟨k,s,hk_A,hp_A,rfl⟩
 refine zy (zx (Zl J) J (zz (Qd ?_)))
 refine Q9 J (fun h => ?_) (fun h => ?_)
 ·have h3 : k < rows.length := by have := of_decide_eq_true h; omega
  have hat := X7 h3
  have hgk : rows[k].size ≤ 9223372036854775807 := hn.2 _ (List.getElem_mem h3)
  refine Qh (Qz (Qd (Qk (zy (z0 J (zx (Q1 J J J J (by omega) (by assumption) J) J (zx (Kc J) J (z1 J (z1 J (Qe ?_))))))))));refine Qz (Qd (zy (z0 J (zx (Yy J J J) J (z0 J (zx (q_neq J J J J) J (zz ?_)))))))
  refine Q9 J (fun h4 => ?_) (fun h4 => ?_)
  ·have h4 : ¬ rows[k].size = w := by have := of_decide_eq_true h4; omega
   refine zy (z1 J (zz (Q8 (T_r (B_r (T_r (T_r (B_r (T_r ?_)))))))));refine F_r ?_
   exact Ke J (Kf [] J J (Xf (level_no (l := ⟨rows⟩) h3 hw (rows_bad h3 h4)).symm))
  have h4 : rows[k].size = w := by have := of_decide_eq_false h4; omega
  have hrn := rows_next hp_A h3 h4
  obtain ⟨er,her⟩ : ∃ er,er = (decide (k = 0) || decide (k + 1 = rows.length)) := ⟨_,rfl⟩
  rw [← her] at hrn
  refine Qh (Qz (zy (z1 J (zz (Qk ?_)))));refine Xe (fun m st => ∃ (c : Nat) (u : Seen × Bool),c + m = w ∧ (colsM rows[k] er w s c = some u) ∧ st = (⟨_,[(1,.o (.c (.ptr 0 0))),(3,I w),(4,.o (.c (.ptr 1 0))),(5,B u.2),(6,I k),(7,S rows[k]),(8,I c),(33,L rows),(34,I (els rows).length),(35,I k)],[.box [.rd [] (sl rows)],.box [vb false,vb u.1.1,vb u.1.2.1,vb u.1.2.2.1,vb u.1.2.2.2]]⟩ : St)) (w) ⟨_,⟨0,s,by omega,J,J⟩,Kb [0,1]⟩ ?_
  rintro m_D _ ⟨c,u,hk_D,hp_D,rfl⟩
  refine Qd (zy (z0 J (z0 J (zx (Zl J) J (zz ?_)))))
  refine Q9 J (fun h5 => ?_) (fun h5 => ?_)
  ·have h5 : c < w := by have := of_decide_eq_true h5; omega
   have hcn := cols_next hp_D
   obtain ⟨t,ht⟩ : ∃ t,byteAt rows[k] (c : Int).toNat = t := ⟨_,rfl⟩
   rw [show byteAt rows[k] c = t from ht] at hcn
   have htb : 0 ≤ t ∧ t ≤ 255 := ht ▸ X1 _ _
   obtain ⟨⟨sa,sb,sc,sd⟩,so⟩ := u
   obtain ⟨e,he⟩ : ∃ e,e = (er || decide (c = 0) || decide (c + 1 = w)) := ⟨_,rfl⟩
   rw [← he] at hcn
   refine Qh (Qz (Qd (Qk (zy (z0 J (z0 J (zx (Ku J) J (z1 J (zz ?_)))))))));refine zy (z0 J (zx (q_eql J J J J) J (z0 J ?_)));refine zx (Qt.grdF J J J .stop (fun hgrd => Zr J)) J ?_;refine zx (Kq J (.hit .stop) (fun hgrd => Zt J J)) J ?_;refine zx (Kq J (.hit (.hit .stop)) (fun hgrd => Qg J J J J J)) J ?_;refine zx (Kq J (.hit (.hit (.hit .stop))) (fun hgrd => Yw J J J)) J ?_;refine zx (Kq J (.hit (.hit (.hit (.hit .stop)))) (fun hgrd => Xa J J J J (by omega))) J ?_;refine zx (Kq J (.hit (.hit (.hit (.hit (.hit .stop))))) (fun hgrd => q_eql J J J J)) J ?_;refine zx (q_or J J J J) J (z0 J ?_);refine zx (Qt.grdF J J J .stop (fun hgrd => Zr J)) J ?_;refine zx (Kq J (.hit .stop) (fun hgrd => q_eql J J J J)) J ?_;refine zx (q_or J J J J) J (z0 J ?_);refine zx (Qt.grdF J J J .stop (fun hgrd => Zr J)) J ?_;refine zx (Kq J (.hit .stop) (fun hgrd => Zr J)) J ?_;refine zx (Kq J (.hit (.hit .stop)) (fun hgrd => Xa J J J J (by omega))) J ?_;refine zx (Kq J (.hit (.hit (.hit .stop))) (fun hgrd => q_eql J J J J)) J ?_;refine zx (q_or J J J J) J (z1 J (zz (Qd (zy (z0 J (z0 J ?_))))));refine zx (Qt.grdT J J J .stop (fun hgrd => Zr J)) J ?_;refine zx (Qt.grdT J J J (.hit .stop) (fun hgrd => q_neq J J J J)) J ?_;refine zx (q_and J J J J) J (zz ?_)
   have hee : (decide ((k : Int) = 0) || decide ((k : Int) = ((els rows).length : Int) - 1) || decide ((c : Int) = 0) || decide ((c : Int) = (w : Int) - 1)) = e := by
    rw [he,her,hlx]
    have g1 : decide ((k : Int) = 0) = decide (k = 0) := by simp
    have g2 : decide ((k : Int) = (rows.length : Int) - 1) = decide (k + 1 = rows.length) := decide_eq_decide.2 (by omega)
    have g3 : decide ((c : Int) = 0) = decide (c = 0) := by simp
    have g4 : decide ((c : Int) = (w : Int) - 1) = decide (c + 1 = w) := decide_eq_decide.2 (by omega)
    rw [g1,g2,g3,g4]
   clear he her
   have hbad : colsM rows[k] er w s (c + 1) = none → levelOk ⟨rows⟩ = false := fun hc => level_no (l := ⟨rows⟩) h3 hw (hrn.trans (cols_none hc (by omega)))
   refine Q9 J (fun h6 => ?_) (fun h6 => ?_)
   ·rw [hee] at h6
    simp only [Bool.and_eq_true,decide_eq_true_eq] at h6
    refine zy (z1 J (zz (Q8 (T_r (B_r (T_r (T_r (B_r (B_r ?_)))))))));refine T_r (T_r (B_r (T_r (F_r ?_))))
    exact Ke J (Kf [] J J (Xf (hbad (hcn.trans (by simp [tileM,h6]))).symm))
   rw [hee] at h6
   have h7 : t = 35 ∨ e = false := by
    simp only [Bool.and_eq_false_iff,decide_eq_false_iff_not,Classical.not_not] at h6
    exact h6.symm
   clear h6 hee
   refine AWP.pre (st' := (⟨_,[(1,.o (.c (.ptr 0 0))),(3,I w),(4,.o (.c (.ptr 1 0))),(5,B so),(6,I k),(7,S rows[k]),(8,I c),(9,VI .u8 t),(33,L rows),(34,I (els rows).length),(35,I k)],[.box [.rd [] (sl rows)],.box [vb false,vb sa,vb sb,vb sc,vb sd]]⟩ : St)) ?_ (Kb [0,1])
   rcases h7 with rfl | h7
   ·refine Qh (Qz (Qd (Qk (zy (z0 rfl ?_)))))
    refine zx (Yu (b := false) J J J J (by decide)) J ?_;refine z0 J (z6 J (z6 J (zpF J (z1 J (zz (Ql J (zy (z0 J ?_))))))));refine zx (Qw (b := false) J J J J (by decide)) J ?_;refine z0 J (z6 J (z6 J (zpF J (z0 J (z6 J (z6 J (zpF J (z1 J (zz (Ql J ?_))))))))));refine Qh (Q0 (Qz (zy (z0 J ?_))));refine zx (Qw (b := false) J J J J (by decide)) J ?_;refine zz (Ql J (Qh (Q0 (Qz (Qc (z0 J (Kd J (z1 J (zz ?_)))))))))
    exact ⟨w - (c + 1),by omega,_,⟨c + 1,((sa,sb,sc,sd),so),by omega,hcn.trans (by simp [tileM]),J⟩,Kb [0,1]⟩
   subst h7
   rcases (by omega : t = 35 ∨ t = 49 ∨ t = 50 ∨ t = 51 ∨ t = 52 ∨ t = 111 ∨ t = 46 ∨ (t ≠ 35 ∧ t ≠ 49 ∧ t ≠ 50 ∧ t ≠ 51 ∧ t ≠ 52 ∧ t ≠ 111 ∧ t ≠ 46)) with rfl | rfl | rfl | rfl | rfl | rfl | rfl | ht7
   ·refine Qh (Qz (Qd (Qk (zy (z0 rfl ?_)))))
    refine zx (Yu (b := false) J J J J (by decide)) J ?_;refine z0 J (z6 J (z6 J (zpF J (z1 J (zz (Ql J (zy (z0 J ?_))))))));refine zx (Qw (b := false) J J J J (by decide)) J ?_;refine z0 J (z6 J (z6 J (zpF J (z0 J (z6 J (z6 J (zpF J (z1 J (zz (Ql J ?_))))))))));refine Qh (Q0 (Qz (zy (z0 J ?_))));refine zx (Qw (b := false) J J J J (by decide)) J ?_;refine zz (Ql J (Qh (Q0 (Qz (Qc (z0 J (Kd J (z1 J (zz ?_)))))))))
    exact ⟨w - (c + 1),by omega,_,⟨c + 1,((sa,sb,sc,sd),so),by omega,hcn.trans (by simp [tileM]),J⟩,Kb [0,1]⟩
   ·refine Qh (Qz (Qd (Qk (zy (z0 rfl ?_)))))
    refine zx (Yu (b := true) J J J J (by decide)) J ?_;refine z0 J (z5 J (z0 J (z5 J ?_)));refine zx (Yz (b := true) J J J J (by decide)) J ?_;refine zpT J (z1 J (zz (Qm J (Qd (zy (z0 J (zx (Y3 J J J J (by omega)) J (zx (q_aidx J J J J (by omega)) J (z3 J ?_)))))))));refine zz ?_
    refine Q9 J (fun h8 => ?_) (fun h8 => ?_)
    ·have h8 : sa = true := h8
     subst h8
     refine zy (z1 J (zz (Q8 (T_r (B_r (T_r (B_r (T_r (T_r ?_)))))))));refine B_r (B_r (T_r (T_r (B_r (T_r (F_r ?_))))))
     exact Ke J (Kf [] J J (Xf (hbad (hcn.trans (by simp [tileM]))).symm))
    ·have h8 : sa = false := h8
     subst h8
     refine Qh (Qz (Qc (z0 J (zx (Y3 J J J J (by omega)) J (zx (q_aidx J J J J (by omega)) J ?_)))));refine Q4 J J J J J J J J (Qe (Q0 (Qz (zy (z0 J ?_)))));refine zx (Qw (b := true) J J J J (by decide)) J ?_;refine zz (Qm J (Qc (z1 J (Qe (Q0 (Qz (Qc (z0 J (Kd J (z1 J ?_))))))))));refine zz ?_
     exact ⟨w - (c + 1),by omega,_,⟨c + 1,((true,sb,sc,sd),true),by omega,hcn.trans (by simp [tileM]),J⟩,Kb [0,1]⟩
   ·refine Qh (Qz (Qd (Qk (zy (z0 rfl ?_)))))
    refine zx (Yu (b := true) J J J J (by decide)) J ?_;refine z0 J (z5 J (z0 J (z5 J ?_)));refine zx (Yz (b := true) J J J J (by decide)) J ?_;refine zpT J (z1 J (zz (Qm J (Qd (zy (z0 J (zx (Y3 J J J J (by omega)) J (zx (q_aidx J J J J (by omega)) J (z3 J ?_)))))))));refine zz ?_
    refine Q9 J (fun h8 => ?_) (fun h8 => ?_)
    ·have h8 : sb = true := h8
     subst h8
     refine zy (z1 J (zz (Q8 (T_r (B_r (T_r (B_r (T_r (T_r ?_)))))))));refine B_r (B_r (T_r (T_r (B_r (T_r (F_r ?_))))))
     exact Ke J (Kf [] J J (Xf (hbad (hcn.trans (by simp [tileM]))).symm))
    ·have h8 : sb = false := h8
     subst h8
     refine Qh (Qz (Qc (z0 J (zx (Y3 J J J J (by omega)) J (zx (q_aidx J J J J (by omega)) J ?_)))));refine Q4 J J J J J J J J (Qe (Q0 (Qz (zy (z0 J ?_)))));refine zx (Qw (b := true) J J J J (by decide)) J ?_;refine zz (Qm J (Qc (z1 J (Qe (Q0 (Qz (Qc (z0 J (Kd J (z1 J ?_))))))))));refine zz ?_
     exact ⟨w - (c + 1),by omega,_,⟨c + 1,((sa,true,sc,sd),true),by omega,hcn.trans (by simp [tileM]),J⟩,Kb [0,1]⟩
   ·refine Qh (Qz (Qd (Qk (zy (z0 rfl ?_)))))
    refine zx (Yu (b := true) J J J J (by decide)) J ?_;refine z0 J (z5 J (z0 J (z5 J ?_)));refine zx (Yz (b := true) J J J J (by decide)) J ?_;refine zpT J (z1 J (zz (Qm J (Qd (zy (z0 J (zx (Y3 J J J J (by omega)) J (zx (q_aidx J J J J (by omega)) J (z3 J ?_)))))))));refine zz ?_
    refine Q9 J (fun h8 => ?_) (fun h8 => ?_)
    ·have h8 : sc = true := h8
     subst h8
     refine zy (z1 J (zz (Q8 (T_r (B_r (T_r (B_r (T_r (T_r ?_)))))))));refine B_r (B_r (T_r (T_r (B_r (T_r (F_r ?_))))))
     exact Ke J (Kf [] J J (Xf (hbad (hcn.trans (by simp [tileM]))).symm))
    ·have h8 : sc = false := h8
     subst h8
     refine Qh (Qz (Qc (z0 J (zx (Y3 J J J J (by omega)) J (zx (q_aidx J J J J (by omega)) J ?_)))));refine Q4 J J J J J J J J (Qe (Q0 (Qz (zy (z0 J ?_)))));refine zx (Qw (b := true) J J J J (by decide)) J ?_;refine zz (Qm J (Qc (z1 J (Qe (Q0 (Qz (Qc (z0 J (Kd J (z1 J ?_))))))))));refine zz ?_
     exact ⟨w - (c + 1),by omega,_,⟨c + 1,((sa,sb,true,sd),true),by omega,hcn.trans (by simp [tileM]),J⟩,Kb [0,1]⟩
   ·refine Qh (Qz (Qd (Qk (zy (z0 rfl ?_)))))
    refine zx (Yu (b := true) J J J J (by decide)) J ?_;refine z0 J (z5 J (z0 J (z5 J ?_)));refine zx (Yz (b := true) J J J J (by decide)) J ?_;refine zpT J (z1 J (zz (Qm J (Qd (zy (z0 J (zx (Y3 J J J J (by omega)) J (zx (q_aidx J J J J (by omega)) J (z3 J ?_)))))))));refine zz ?_
    refine Q9 J (fun h8 => ?_) (fun h8 => ?_)
    ·have h8 : sd = true := h8
     subst h8
     refine zy (z1 J (zz (Q8 (T_r (B_r (T_r (B_r (T_r (T_r ?_)))))))));refine B_r (B_r (T_r (T_r (B_r (T_r (F_r ?_))))))
     exact Ke J (Kf [] J J (Xf (hbad (hcn.trans (by simp [tileM]))).symm))
    ·have h8 : sd = false := h8
     subst h8
     refine Qh (Qz (Qc (z0 J (zx (Y3 J J J J (by omega)) J (zx (q_aidx J J J J (by omega)) J ?_)))));refine Q4 J J J J J J J J (Qe (Q0 (Qz (zy (z0 J ?_)))));refine zx (Qw (b := true) J J J J (by decide)) J ?_;refine zz (Qm J (Qc (z1 J (Qe (Q0 (Qz (Qc (z0 J (Kd J (z1 J ?_))))))))));refine zz ?_
     exact ⟨w - (c + 1),by omega,_,⟨c + 1,((sa,sb,sc,true),true),by omega,hcn.trans (by simp [tileM]),J⟩,Kb [0,1]⟩
   ·refine Qh (Qz (Qd (Qk (zy (z0 rfl ?_)))))
    refine zx (Yu (b := true) J J J J (by decide)) J ?_;refine z0 J (z5 J (z0 J (z5 J ?_)));refine zx (Yz (b := false) J J J J (by decide)) J ?_;refine zpT J (z1 J (zz (Ql J (zy (z0 J ?_)))));refine zx (Qw (b := true) J J J J (by decide)) J ?_;refine z0 J (z5 J (z0 J (z5 J ?_)));refine zx (Qw (b := false) J J J J (by decide)) J ?_;refine zpT J (z0 J (z6 J (z6 J (zpF J (z1 J (zz (Ql J (Qh (Q0 (Qz ?_))))))))));refine zy (z0 J ?_);refine zx (Qw (b := true) J J J J (by decide)) J ?_;refine zz (Qm J (Qc (z1 J (Qe (Q0 (Qz (Qc (z0 J (Kd J (z1 J ?_))))))))));refine zz ?_
    exact ⟨w - (c + 1),by omega,_,⟨c + 1,((sa,sb,sc,sd),true),by omega,hcn.trans (by simp [tileM]),J⟩,Kb [0,1]⟩
   ·refine Qh (Qz (Qd (Qk (zy (z0 rfl ?_)))))
    refine zx (Yu (b := false) J J J J (by decide)) J ?_;refine z0 J (z6 J (z6 J (zpF J (z1 J (zz (Ql J (zy (z0 J ?_))))))));refine zx (Qw (b := true) J J J J (by decide)) J ?_;refine z0 J (z5 J (z0 J (z5 J ?_)));refine zx (Qw (b := true) J J J J (by decide)) J ?_;refine zpT J (z0 J (z5 J (z0 J (z5 J ?_))));refine zx (Qw (b := false) J J J J (by decide)) J ?_;refine zpT J (z1 J (zz (Ql J (Qh (Q0 (Qz (zy (z0 J ?_))))))));refine zx (Qw (b := true) J J J J (by decide)) J ?_;refine zz (Qm J (Qc (z1 J (Qe (Q0 (Qz (Qc (z0 J (Kd J (z1 J ?_))))))))));refine zz ?_
    exact ⟨w - (c + 1),by omega,_,⟨c + 1,((sa,sb,sc,sd),true),by omega,hcn.trans (by simp [tileM]),J⟩,Kb [0,1]⟩
   ·refine Qh (Qz (Qd (Qk (zy (z0 rfl (zx (q_geq J J J J) rfl ?_))))))
    refine z0 J ?_;refine zx (Qt.grdT J J J .stop (fun hgrd => Zr J)) J ?_;refine zx (Qt.grdT J J J (.hit .stop) (fun hgrd => q_leq J J J J)) J ?_;refine zx (q_and J J J J) J (z1 J (zz ?_))
    refine Q9 J (fun h8 => ?_) (fun h8 => ?_)
    ·simp only [Bool.and_eq_true,decide_eq_true_eq] at h8
     omega
    refine zy (z0 J (zx (q_neq J J J J) J (z0 J ?_)));refine zx (Qt.grdT J J J .stop (fun hgrd => Zr J)) J ?_;refine zx (Qt.grdT J J J (.hit .stop) (fun hgrd => q_neq J J J J)) J ?_;refine zx (q_and J J J J) J (z0 J ?_);refine zx (Qt.grdT J J J .stop (fun hgrd => Zr J)) J ?_;refine zx (Qt.grdT J J J (.hit .stop) (fun hgrd => q_neq J J J J)) J ?_;refine zx (q_and J J J J) J (z1 J (zz ?_))
    refine Q9 J (fun h9 => ?_) (fun h9 => ?_)
    ·refine zy (z1 rfl (zz (Q8 (B_r (T_r (B_r (T_r ?_)))))))
     refine T_r (B_r (B_r (T_r (T_r (B_r (T_r (F_r ?_)))))))
     exact Ke J (Kf [] J J (Xf (hbad (hcn.trans (by simp [tileM,ht7]))).symm))
    ·simp only [Bool.and_eq_false_iff,decide_eq_false_iff_not,Classical.not_not] at h9
     omega
  ·have h5 : c = w := by have := of_decide_eq_false h5; omega
   rw [h5] at hp_D
   rw [hp_D] at hrn
   refine Q7 (T_x (T_x (Xg (Q0 (Qz (Qc (Kd J (z0 J (zz ?_)))))))))
   exact ⟨rows.length - (k + 1),by omega,_,⟨k + 1,u,by omega,hrn,J⟩,Kb [0,1]⟩
 ·have h3 : ¬ ((k : Int) < (els rows).length) := of_decide_eq_false h
  have hk : k = rows.length := by omega
  subst hk
  refine Q7 (T_x (T_x (Xg (Qz (zy (z0 J (z1 J (zz (Q8 ?_)))))))));refine F_r ?_
  exact Ke J (Kf [] J J (Xf (by
   unfold levelOk
   rw [hw,hp_A]
   have : 3 ≤ rows.length ∧ rows.length ≤ 12 ∧ 4 ≤ w ∧ w ≤ 20 := by omega
   simp [this])))
end
section
open Go.RowKit

theorem S_LevelOk (x : TLevel) (hg : Enc.gd x) : Con Tryd.prog 83 [] [ag x] [] (B (levelOk x)) := by
 obtain ⟨rows⟩ := x
 have hn : Enc.gd rows := hg
 have hn1 := hn.1
 have hlx := X8 rows
 refine Con.of Tryd.func83 J Tryd.ntmps83 J (fun E => ?_)
 refine zy (Ki (Qq J J J J) J (z1 J (zz (Qd (zy (z2 J J J (z3 J (zx (Yw J J J) J ?_))))))));refine zx (Qj J J (S_in (els rows).length 3 12) J) J ?_;refine zn J (zz ?_)
 refine Q9 J (fun h => ?_) (fun h => ?_)
 ·refine zy (z1 rfl (zz (Q8 (T_r (F_r ?_)))))
  exact Ke J (Kf [] J J (Xf (by simp [inR] at h; simp [levelOk]; omega)))
 have h : 3 ≤ rows.length ∧ rows.length ≤ 12 := by simp [inR] at h; omega
 have h0 : 0 < rows.length := by omega
 have hat0 : (els rows)[(0 : Int).toNat]? = some (Enc.e rows[0]) := X7 h0
 have hw := width_at h0
 obtain ⟨w,hw'⟩ : ∃ w,w = rows[0].size := ⟨_,rfl⟩
 rw [← hw'] at hw
 have hg0 : rows[0].size ≤ 9223372036854775807 := hn.2 _ (List.getElem_mem h0)
 refine Qh (Qz (zy (z2 J J J (z3 J (zx (Q1 J J J J (by omega) (by assumption) J) J (zx (Kc J) J (zx (Yy J J J) J (z1 J (zz ?_)))))))));refine zy (z1 J (zz (zy (Ki (Yn J J J J J J) J (z1 J (zz (Qd ?_)))))));refine zy (z1 J (zz (Qk ?_)));refine Xe (fun m st => ∃ (k : Nat) (s : Seen × Bool),k + m = rows.length ∧ (rowsM rows w k = some s ∧ (0 < k → 4 ≤ w ∧ w ≤ 20)) ∧ st = (⟨_,[(1,.o (.c (.ptr 0 0))),(3,I w),(4,B s.2),(5,.o (.c (.sb 1 4 1))),(6,I k)],[.box [.rd [] (sl rows)],.box [vb s.1.1,vb s.1.2.1,vb s.1.2.2.1,vb s.1.2.2.2]]⟩ : St)) (rows.length) ⟨(fun (k : Nat) (s : Seen × Bool) => (⟨_,[(1,.o (.c (.ptr 0 0))),(3,I w),(4,B s.2),(5,.o (.c (.sb 1 4 1))),(6,I k)],[.box [.rd [] (sl rows)],.box [vb s.1.1,vb s.1.2.1,vb s.1.2.2.1,vb s.1.2.2.2]]⟩ : St)) 0 (((false,false,false,false),false)),⟨0,((false,false,false,false),false),by omega,⟨J,by omega⟩,J⟩,Z7 [0,1] J (.c J (.cons (Kt) (.c J (.c J (.c J (.nil))))))⟩ ?_
 rintro m_A _ ⟨k,s,hk_A,hp_A,rfl⟩
 refine Qd (zy (z0 J (z2 J J J (z3 J (zx (Yw J J J) J (zx (Zl J) J (zz ?_)))))))
 refine Q9 J (fun h => ?_) (fun h => ?_)
 ·have h3 : k < rows.length := by have := of_decide_eq_true h; omega
  have hat := X7 h3
  have hwc : ((rows[0].size : Nat) : Int) = w := by omega
  have hgk : rows[k].size ≤ 9223372036854775807 := hn.2 _ (List.getElem_mem h3)
  refine Qh (Qz (Qd (Qk (Qd (zy (z2 J J J (z3 J (z0 J (zx (Q1 J J J J (by omega) (by assumption) J) J (zx (Kc J) J ?_))))))))));refine zx (Yy J J J) J (z0 J (zx (q_neq J J J J) J (z0 J ?_)));refine zx (Qt.grdF J J J .stop (fun hgrd => Zr J)) J ?_;refine zx (Kq J (.hit .stop) (fun hgrd => Qj J J (S_in w 4 20) J)) J ?_;refine zx (Kq J (.hit (.hit .stop)) (fun hgrd => Q3 J J J)) J ?_;refine zx (q_or J J J J) J (zz ?_)
  refine Q9 J (fun h4 => ?_) (fun h4 => ?_)
  ·simp only [Bool.or_eq_true,decide_eq_true_eq,Bool.not_eq_true',inR,Bool.and_eq_false_iff,decide_eq_false_iff_not] at h4
   refine zy (z1 J (zz (Q8 (T_r (B_r (T_r (T_r (B_r (T_r ?_)))))))));refine F_r ?_
   refine Ke J (Kf [] J J (Xf ?_))
   by_cases h4' : rows[k].size = w
   ·have : ¬ (4 ≤ w ∧ w ≤ 20) := by omega
    simp only [levelOk,hw]
    rcases Nat.lt_or_ge w 4 with h9 | h9
    ·simp [show ¬ 4 ≤ w by omega]
    ·simp [show ¬ w ≤ 20 by omega]
   ·exact (level_no (l := ⟨rows⟩) h3 hw (rows_bad h3 h4')).symm
  simp only [Bool.or_eq_false_iff,decide_eq_false_iff_not,Bool.not_eq_false',inR,Bool.and_eq_true,decide_eq_true_eq] at h4
  have h1 : 4 ≤ w ∧ w ≤ 20 := by omega
  have h4 : rows[k].size = w := by omega
  have hrn := rows_next hp_A.1 h3 h4
  obtain ⟨er,her⟩ : ∃ er,er = (decide (k = 0) || decide (k + 1 = rows.length)) := ⟨_,rfl⟩
  rw [← her] at hrn
  refine Qh (Qz (zy (z1 J (zz (Qk ?_)))));refine Xe (fun m st => ∃ (c : Nat) (u : Seen × Bool),c + m = w ∧ (colsM rows[k] er w s c = some u) ∧ st = (⟨_,[(1,.o (.c (.ptr 0 0))),(3,I w),(4,B u.2),(5,.o (.c (.sb 1 4 1))),(6,I k),(7,I c)],[.box [.rd [] (sl rows)],.box [vb u.1.1,vb u.1.2.1,vb u.1.2.2.1,vb u.1.2.2.2]]⟩ : St)) (w) ⟨_,⟨0,s,by omega,J,J⟩,Kb [0,1]⟩ ?_
  rintro m_D _ ⟨c,u,hk_D,hp_D,rfl⟩
  refine Qd (zy (z0 J (z0 J (zx (Zl J) J (zz ?_)))))
  refine Q9 J (fun h5 => ?_) (fun h5 => ?_)
  ·have h5 : c < w := by have := of_decide_eq_true h5; omega
   have hcn := cols_next hp_D
   obtain ⟨t,ht⟩ : ∃ t,byteAt rows[k] (c : Int).toNat = t := ⟨_,rfl⟩
   rw [show byteAt rows[k] c = t from ht] at hcn
   have htb : 0 ≤ t ∧ t ≤ 255 := ht ▸ X1 _ _
   obtain ⟨⟨sa,sb,sc,sd⟩,so⟩ := u
   obtain ⟨e,he⟩ : ∃ e,e = (er || decide (c = 0) || decide (c + 1 = w)) := ⟨_,rfl⟩
   rw [← he] at hcn
   refine Qh (Qz (Qd (Qk (zy (z2 J J J (z3 J (z0 J (zx (Q1 J J J J (by omega) (by assumption) J) J (zx (Kc J) J (z0 J ?_))))))))));refine zx (Ku J) J (z1 J (zz (zy (z0 J (zx (q_eql J J J J) J (z0 J ?_))))));refine zx (Qt.grdF J J J .stop (fun hgrd => Zr J)) J ?_;refine zx (Kq J (.hit .stop) (fun hgrd => q_eql J J J J)) J ?_;refine zx (q_or J J J J) J (z0 J ?_);refine zx (Qt.grdF J J J .stop (fun hgrd => Zr J)) J ?_;refine zx (Kq J (.hit .stop) (fun hgrd => Zt J J)) J ?_;refine zx (Kq J (.hit (.hit .stop)) (fun hgrd => Qg J J J J J)) J ?_;refine zx (Kq J (.hit (.hit (.hit .stop))) (fun hgrd => Yw J J J)) J ?_;refine zx (Kq J (.hit (.hit (.hit (.hit .stop)))) (fun hgrd => Xa J J J J (by omega))) J ?_;refine zx (Kq J (.hit (.hit (.hit (.hit (.hit .stop))))) (fun hgrd => q_eql J J J J)) J ?_;refine zx (q_or J J J J) J (z0 J ?_);refine zx (Qt.grdF J J J .stop (fun hgrd => Zr J)) J ?_;refine zx (Kq J (.hit .stop) (fun hgrd => Zr J)) J ?_;refine zx (Kq J (.hit (.hit .stop)) (fun hgrd => Xa J J J J (by omega))) J ?_;refine zx (Kq J (.hit (.hit (.hit .stop))) (fun hgrd => q_eql J J J J)) J ?_;refine zx (q_or J J J J) J (z1 J (zz (Qd (Qk (zy (z0 J (zx (q_eql J J J J) J (z1 J (Qe ?_)))))))));refine Qz ?_
   have hee : (decide ((k : Int) = 0) || decide ((c : Int) = 0) || decide ((k : Int) = ((els rows).length : Int) - 1) || decide ((c : Int) = (w : Int) - 1)) = e := by
    rw [he,her,hlx]
    have g1 : decide ((k : Int) = 0) = decide (k = 0) := by simp
    have g2 : decide ((k : Int) = (rows.length : Int) - 1) = decide (k + 1 = rows.length) := decide_eq_decide.2 (by omega)
    have g3 : decide ((c : Int) = 0) = decide (c = 0) := by simp
    have g4 : decide ((c : Int) = (w : Int) - 1) = decide (c + 1 = w) := decide_eq_decide.2 (by omega)
    rw [g1,g2,g3,g4]
    cases decide (k = 0) <;> cases decide (c = 0) <;> cases decide (k + 1 = rows.length) <;> rfl
   clear he her
   have hbad : colsM rows[k] er w s (c + 1) = none → levelOk ⟨rows⟩ = false := fun hc => level_no (l := ⟨rows⟩) h3 hw (hrn.trans (cols_none hc (by omega)))
   refine AWP.pre (st' := (⟨_,[(1,.o (.c (.ptr 0 0))),(3,I w),(4,B so),(5,.o (.c (.sb 1 4 1))),(6,I k),(7,I c),(8,VI .u8 t),(9,B e),(73,B (decide (t = 35)))],[.box [.rd [] (sl rows)],.box [vb sa,vb sb,vb sc,vb sd]]⟩ : St)) ?_ (Z7 [0,1] J (.c J (.c J (.c J (.c J (.c J (.c J (.c J (.cons (Xf hee) (.c J (.nil)))))))))))
   by_cases h7 : t = 35
   ·subst h7
    refine Qm J (Qh (Q0 (Qz (Qc (z0 J (z0 J ?_))))));refine zx (Qt.grdF J J J .stop (fun hgrd => Zr J)) J ?_;refine zx (Kq J (.hit .stop) (fun hgrd => Qw (b := false) J J J J (by decide))) J ?_;refine zx (q_or J J J J) J (z1 J (Qe (Q0 (Qz (Qc (z0 J (Kd J (z1 J (zz ?_)))))))))
    exact ⟨w - (c + 1),by omega,(fun (c : Nat) (u : Seen × Bool) => (⟨_,[(1,.o (.c (.ptr 0 0))),(3,I w),(4,B u.2),(5,.o (.c (.sb 1 4 1))),(6,I k),(7,I c)],[.box [.rd [] (sl rows)],.box [vb u.1.1,vb u.1.2.1,vb u.1.2.2.1,vb u.1.2.2.2]]⟩ : St)) (c + 1) (((sa,sb,sc,sd),so)),⟨c + 1,((sa,sb,sc,sd),so),by omega,hcn.trans (by simp [tileM]),J⟩,Z7 [0,1] J (.c J (.c J (.cons (Xf (by simp)) (.c J (.c J (.c J (.nil)))))))⟩
   cases e
   case true =>
    have f1 : decide (t = 35) = false := decide_eq_false h7
    refine Q9 J (fun h => absurd (of_decide_eq_true h) h7) (fun _ => ?_)
    refine zy (z0 J (z0 J (z6 J (z6 J (z6 J (zx (Qt.no2 J J J) J (zx (Qt.no2 J J J) J (z6 J (z6 J (zx (Qt.no2 J J J) J ?_))))))))));refine zx (Qt.no2 J J J) J (zx (Qt.no2 J J J) J (zx (Qt.no2 J J J) J (zx (Qt.no2 J J J) J (zx (Qt.no2 J J J) J (z6 J (zpT J (z1 J (zz (Qm J (Qd ?_))))))))));refine Qc (z1 J (zz (Q8 (B_r (T_r (B_r (T_r (T_r (B_r (B_r ?_))))))))));refine T_r (T_r (B_r (T_r (F_r ?_))))
    exact Ke J (Kf [] J J (Xf (hbad (hcn.trans (by simp [tileM,h7]))).symm))
   refine Q9 J (fun h => absurd (of_decide_eq_true h) h7) (fun _ => ?_)
   rcases (by omega : t = 49 ∨ t = 50 ∨ t = 51 ∨ t = 52 ∨ t = 111 ∨ t = 46 ∨ (t ≠ 35 ∧ t ≠ 49 ∧ t ≠ 50 ∧ t ≠ 51 ∧ t ≠ 52 ∧ t ≠ 111 ∧ t ≠ 46)) with rfl | rfl | rfl | rfl | rfl | rfl | ht7
   ·refine zy (z0 rfl (z0 rfl (z5 rfl ?_)))
    refine z0 J (z5 J ?_);refine zx (Qw (b := true) J J J J (by decide)) J ?_;refine z5 J (z0 J (z5 J (z0 J (z5 J ?_))));refine zx (Qw (b := true) J J J J (by decide)) J ?_;refine z5 J (zpT J (z5 J (z0 J (z5 J (z0 J (z5 J (K0 J (z5 J (z0 J (z5 J (z0 J ?_)))))))))));refine z5 J (z9c J (by assumption) (z5 J (zpF J (z5 J (zpT J (zpF J (z1 J (zz (Ql J (Qd ?_))))))))));refine Qc (z0 J ?_);refine zx (Yu (b := true) J J J J (by decide)) J ?_;refine z0 J (z5 J (z0 J (z5 J ?_)));refine zx (Yz (b := true) J J J J (by decide)) J ?_;refine zpT J (z1 J (zz (Qm J (Qd (zy (z0 J (z0 J (zx (Y3 J J J J (by omega)) J (zx (q_sbat J J J J (by omega)) J ?_)))))))));refine z3 J (zz ?_)
    refine Q9 J (fun h8 => ?_) (fun h8 => ?_)
    ·have h8 : sa = true := h8
     subst h8
     refine zy (z1 J (zz (Q8 (T_r (B_r (T_r (B_r (T_r (T_r ?_)))))))));refine B_r (B_r (T_r (T_r (B_r (T_r (F_r ?_))))))
     exact Ke J (Kf [] J J (Xf (hbad (hcn.trans (by simp [tileM]))).symm))
    ·have h8 : sa = false := h8
     subst h8
     refine Qh (Qz (Qc (z0 J (z0 J (zx (Y3 J J J J (by omega)) J (zx (q_sbat J J J J (by omega)) J ?_))))));refine Q4 J J J J J J J J (Qe (Q0 (Qz (Qc (z0 J (z0 J ?_))))));refine zx (Qt.grdF J J J .stop (fun hgrd => Zr J)) J ?_;refine zx (Kq J (.hit .stop) (fun hgrd => Qw (b := true) J J J J (by decide))) J ?_;refine zx (q_or J J J J) J (z1 J (Qe (Q0 (Qz (Qc (z0 J (Kd J (z1 J (zz ?_)))))))))
     exact ⟨w - (c + 1),by omega,(fun (c : Nat) (u : Seen × Bool) => (⟨_,[(1,.o (.c (.ptr 0 0))),(3,I w),(4,B u.2),(5,.o (.c (.sb 1 4 1))),(6,I k),(7,I c)],[.box [.rd [] (sl rows)],.box [vb u.1.1,vb u.1.2.1,vb u.1.2.2.1,vb u.1.2.2.2]]⟩ : St)) (c + 1) (((true,sb,sc,sd),true)),⟨c + 1,((true,sb,sc,sd),true),by omega,hcn.trans (by simp [tileM]),J⟩,Z7 [0,1] J (.c J (.c J (.cons (Xf (by simp)) (.c J (.c J (.c J (.nil)))))))⟩
   ·refine zy (z0 rfl (z0 rfl (z5 rfl ?_)))
    refine z0 J (z5 J ?_);refine zx (Qw (b := true) J J J J (by decide)) J ?_;refine z5 J (z0 J (z5 J (z0 J (z5 J ?_))));refine zx (Qw (b := true) J J J J (by decide)) J ?_;refine z5 J (zpT J (z5 J (z0 J (z5 J (z0 J (z5 J (K0 J (z5 J (z0 J (z5 J (z0 J ?_)))))))))));refine z5 J (z9c J (by assumption) (z5 J (zpF J (z5 J (zpT J (zpF J (z1 J (zz (Ql J (Qd ?_))))))))));refine Qc (z0 J ?_);refine zx (Yu (b := true) J J J J (by decide)) J ?_;refine z0 J (z5 J (z0 J (z5 J ?_)));refine zx (Yz (b := true) J J J J (by decide)) J ?_;refine zpT J (z1 J (zz (Qm J (Qd (zy (z0 J (z0 J (zx (Y3 J J J J (by omega)) J (zx (q_sbat J J J J (by omega)) J ?_)))))))));refine z3 J (zz ?_)
    refine Q9 J (fun h8 => ?_) (fun h8 => ?_)
    ·have h8 : sb = true := h8
     subst h8
     refine zy (z1 J (zz (Q8 (T_r (B_r (T_r (B_r (T_r (T_r ?_)))))))));refine B_r (B_r (T_r (T_r (B_r (T_r (F_r ?_))))))
     exact Ke J (Kf [] J J (Xf (hbad (hcn.trans (by simp [tileM]))).symm))
    ·have h8 : sb = false := h8
     subst h8
     refine Qh (Qz (Qc (z0 J (z0 J (zx (Y3 J J J J (by omega)) J (zx (q_sbat J J J J (by omega)) J ?_))))));refine Q4 J J J J J J J J (Qe (Q0 (Qz (Qc (z0 J (z0 J ?_))))));refine zx (Qt.grdF J J J .stop (fun hgrd => Zr J)) J ?_;refine zx (Kq J (.hit .stop) (fun hgrd => Qw (b := true) J J J J (by decide))) J ?_;refine zx (q_or J J J J) J (z1 J (Qe (Q0 (Qz (Qc (z0 J (Kd J (z1 J (zz ?_)))))))))
     exact ⟨w - (c + 1),by omega,(fun (c : Nat) (u : Seen × Bool) => (⟨_,[(1,.o (.c (.ptr 0 0))),(3,I w),(4,B u.2),(5,.o (.c (.sb 1 4 1))),(6,I k),(7,I c)],[.box [.rd [] (sl rows)],.box [vb u.1.1,vb u.1.2.1,vb u.1.2.2.1,vb u.1.2.2.2]]⟩ : St)) (c + 1) (((sa,true,sc,sd),true)),⟨c + 1,((sa,true,sc,sd),true),by omega,hcn.trans (by simp [tileM]),J⟩,Z7 [0,1] J (.c J (.c J (.cons (Xf (by simp)) (.c J (.c J (.c J (.nil)))))))⟩
   ·refine zy (z0 rfl (z0 rfl (z5 rfl ?_)))
    refine z0 J (z5 J ?_);refine zx (Qw (b := true) J J J J (by decide)) J ?_;refine z5 J (z0 J (z5 J (z0 J (z5 J ?_))));refine zx (Qw (b := true) J J J J (by decide)) J ?_;refine z5 J (zpT J (z5 J (z0 J (z5 J (z0 J (z5 J (K0 J (z5 J (z0 J (z5 J (z0 J ?_)))))))))));refine z5 J (z9c J (by assumption) (z5 J (zpF J (z5 J (zpT J (zpF J (z1 J (zz (Ql J (Qd ?_))))))))));refine Qc (z0 J ?_);refine zx (Yu (b := true) J J J J (by decide)) J ?_;refine z0 J (z5 J (z0 J (z5 J ?_)));refine zx (Yz (b := true) J J J J (by decide)) J ?_;refine zpT J (z1 J (zz (Qm J (Qd (zy (z0 J (z0 J (zx (Y3 J J J J (by omega)) J (zx (q_sbat J J J J (by omega)) J ?_)))))))));refine z3 J (zz ?_)
    refine Q9 J (fun h8 => ?_) (fun h8 => ?_)
    ·have h8 : sc = true := h8
     subst h8
     refine zy (z1 J (zz (Q8 (T_r (B_r (T_r (B_r (T_r (T_r ?_)))))))));refine B_r (B_r (T_r (T_r (B_r (T_r (F_r ?_))))))
     exact Ke J (Kf [] J J (Xf (hbad (hcn.trans (by simp [tileM]))).symm))
    ·have h8 : sc = false := h8
     subst h8
     refine Qh (Qz (Qc (z0 J (z0 J (zx (Y3 J J J J (by omega)) J (zx (q_sbat J J J J (by omega)) J ?_))))));refine Q4 J J J J J J J J (Qe (Q0 (Qz (Qc (z0 J (z0 J ?_))))));refine zx (Qt.grdF J J J .stop (fun hgrd => Zr J)) J ?_;refine zx (Kq J (.hit .stop) (fun hgrd => Qw (b := true) J J J J (by decide))) J ?_;refine zx (q_or J J J J) J (z1 J (Qe (Q0 (Qz (Qc (z0 J (Kd J (z1 J (zz ?_)))))))))
     exact ⟨w - (c + 1),by omega,(fun (c : Nat) (u : Seen × Bool) => (⟨_,[(1,.o (.c (.ptr 0 0))),(3,I w),(4,B u.2),(5,.o (.c (.sb 1 4 1))),(6,I k),(7,I c)],[.box [.rd [] (sl rows)],.box [vb u.1.1,vb u.1.2.1,vb u.1.2.2.1,vb u.1.2.2.2]]⟩ : St)) (c + 1) (((sa,sb,true,sd),true)),⟨c + 1,((sa,sb,true,sd),true),by omega,hcn.trans (by simp [tileM]),J⟩,Z7 [0,1] J (.c J (.c J (.cons (Xf (by simp)) (.c J (.c J (.c J (.nil)))))))⟩
   ·refine zy (z0 rfl (z0 rfl (z5 rfl ?_)))
    refine z0 J (z5 J ?_);refine zx (Qw (b := true) J J J J (by decide)) J ?_;refine z5 J (z0 J (z5 J (z0 J (z5 J ?_))));refine zx (Qw (b := true) J J J J (by decide)) J ?_;refine z5 J (zpT J (z5 J (z0 J (z5 J (z0 J (z5 J (K0 J (z5 J (z0 J (z5 J (z0 J ?_)))))))))));refine z5 J (z9c J (by assumption) (z5 J (zpF J (z5 J (zpT J (zpF J (z1 J (zz (Ql J (Qd ?_))))))))));refine Qc (z0 J ?_);refine zx (Yu (b := true) J J J J (by decide)) J ?_;refine z0 J (z5 J (z0 J (z5 J ?_)));refine zx (Yz (b := true) J J J J (by decide)) J ?_;refine zpT J (z1 J (zz (Qm J (Qd (zy (z0 J (z0 J (zx (Y3 J J J J (by omega)) J (zx (q_sbat J J J J (by omega)) J ?_)))))))));refine z3 J (zz ?_)
    refine Q9 J (fun h8 => ?_) (fun h8 => ?_)
    ·have h8 : sd = true := h8
     subst h8
     refine zy (z1 J (zz (Q8 (T_r (B_r (T_r (B_r (T_r (T_r ?_)))))))));refine B_r (B_r (T_r (T_r (B_r (T_r (F_r ?_))))))
     exact Ke J (Kf [] J J (Xf (hbad (hcn.trans (by simp [tileM]))).symm))
    ·have h8 : sd = false := h8
     subst h8
     refine Qh (Qz (Qc (z0 J (z0 J (zx (Y3 J J J J (by omega)) J (zx (q_sbat J J J J (by omega)) J ?_))))));refine Q4 J J J J J J J J (Qe (Q0 (Qz (Qc (z0 J (z0 J ?_))))));refine zx (Qt.grdF J J J .stop (fun hgrd => Zr J)) J ?_;refine zx (Kq J (.hit .stop) (fun hgrd => Qw (b := true) J J J J (by decide))) J ?_;refine zx (q_or J J J J) J (z1 J (Qe (Q0 (Qz (Qc (z0 J (Kd J (z1 J (zz ?_)))))))))
     exact ⟨w - (c + 1),by omega,(fun (c : Nat) (u : Seen × Bool) => (⟨_,[(1,.o (.c (.ptr 0 0))),(3,I w),(4,B u.2),(5,.o (.c (.sb 1 4 1))),(6,I k),(7,I c)],[.box [.rd [] (sl rows)],.box [vb u.1.1,vb u.1.2.1,vb u.1.2.2.1,vb u.1.2.2.2]]⟩ : St)) (c + 1) (((sa,sb,sc,true),true)),⟨c + 1,((sa,sb,sc,true),true),by omega,hcn.trans (by simp [tileM]),J⟩,Z7 [0,1] J (.c J (.c J (.cons (Xf (by simp)) (.c J (.c J (.c J (.nil)))))))⟩
   ·refine zy (z0 rfl (z0 rfl (z5 rfl ?_)))
    refine z0 J (z5 J (Ka J (z5 J (z0 J (z6 J (z6 J (z5 J (zpF J (z5 J (z0 J (z6 J ?_)))))))))));refine z6 J (z6 J (zx (Qt.no2 J J J) J (zx (Qt.no2 J J J) J (z6 J (z5 J (zpF J (zpF J (z1 J (zz (Ql J ?_))))))))));refine zy (z0 J ?_);refine zx (Yu (b := true) J J J J (by decide)) J ?_;refine z0 J (z5 J (z0 J (z5 J (z9b J (by assumption) (zpT J (z1 J (zz (Ql J (Qh (Q0 ?_))))))))));refine Qz (Qc (z0 J (z0 J ?_)));refine zx (Qt.grdF J J J .stop (fun hgrd => Zr J)) J ?_;refine zx (Kq J (.hit .stop) (fun hgrd => Qw (b := true) J J J J (by decide))) J ?_;refine zx (q_or J J J J) J (z1 J (Qe (Q0 (Qz (Qc (z0 J (Kd J (z1 J (zz ?_)))))))))
    exact ⟨w - (c + 1),by omega,(fun (c : Nat) (u : Seen × Bool) => (⟨_,[(1,.o (.c (.ptr 0 0))),(3,I w),(4,B u.2),(5,.o (.c (.sb 1 4 1))),(6,I k),(7,I c)],[.box [.rd [] (sl rows)],.box [vb u.1.1,vb u.1.2.1,vb u.1.2.2.1,vb u.1.2.2.2]]⟩ : St)) (c + 1) (((sa,sb,sc,sd),true)),⟨c + 1,((sa,sb,sc,sd),true),by omega,hcn.trans (by simp [tileM]),J⟩,Z7 [0,1] J (.c J (.c J (.cons (Xf (by simp)) (.c J (.c J (.c J (.nil)))))))⟩
   ·refine zy (z0 rfl (z0 rfl (z5 rfl ?_)))
    refine z0 J (z5 J ?_);refine zx (Qw (b := true) J J J J (by decide)) J ?_;refine z5 J (z0 J (z5 J (z0 J (z5 J (Ka J (z5 J (zpT J (z5 J (z0 J (z6 J (z6 J ?_)))))))))));refine z6 J (zx (Qt.no2 J J J) J (zx (Qt.no2 J J J) J (z6 J (z5 J (zpF J (zpF J (z1 J (zz (Ql J (Qd ?_))))))))));refine Qc (z0 J (z9d J (by assumption) (z0 J (z6 J (z6 J (zpF J (z1 J (zz (Ql J (Qh ?_))))))))));refine Q0 (Qz (Qc (z0 J (z0 J ?_))));refine zx (Qt.grdF J J J .stop (fun hgrd => Zr J)) J ?_;refine zx (Kq J (.hit .stop) (fun hgrd => Qw (b := true) J J J J (by decide))) J ?_;refine zx (q_or J J J J) J (z1 J (Qe (Q0 (Qz (Qc (z0 J (Kd J (z1 J (zz ?_)))))))))
    exact ⟨w - (c + 1),by omega,(fun (c : Nat) (u : Seen × Bool) => (⟨_,[(1,.o (.c (.ptr 0 0))),(3,I w),(4,B u.2),(5,.o (.c (.sb 1 4 1))),(6,I k),(7,I c)],[.box [.rd [] (sl rows)],.box [vb u.1.1,vb u.1.2.1,vb u.1.2.2.1,vb u.1.2.2.2]]⟩ : St)) (c + 1) (((sa,sb,sc,sd),true)),⟨c + 1,((sa,sb,sc,sd),true),by omega,hcn.trans (by simp [tileM]),J⟩,Z7 [0,1] J (.c J (.c J (.cons (Xf (by simp)) (.c J (.c J (.c J (.nil)))))))⟩
   ·refine zy (z0 rfl (z0 rfl (z5 rfl ?_)))
    refine z0 J (z5 J (zx (q_neq J J J J) J (z5 J (z0 J ?_))));refine zx (Qt.grdT J J J .stop (fun hgrd => Zr J)) J ?_;refine zx (Qt.grdT J J J (.hit .stop) (fun hgrd => q_neq J J J J)) J ?_;refine z5 J (zx (q_and J J J J) J (z5 J (z0 J ?_)));refine zx (Qt.grdT J J J .stop (fun hgrd => Zr J)) J ?_;refine zx (Qt.grdT J J J (.hit .stop) (fun hgrd => Zl J)) J ?_;refine zx (Qt.grdT J J J (.hit (.hit .stop)) (fun hgrd => Zr J)) J ?_;refine zx (Qt.grd2F J J J (.hit1 (.hit1 (.hit1 .stop))) (fun hgrd hgrd2 => Zr J)) J ?_;refine zx (Qt.grd2F J J J (.hit (.hit1 (.hit1 (.hit1 .stop)))) (fun hgrd hgrd2 => q_gtr J J J J)) J ?_;refine zx (Qt.grdT J J J (.part (.part (.hit (.hit (.hit .stop))))) (fun hgrd => q_or J J J J)) J ?_;refine z5 J (zx (q_and J J J J) J (zpF J (z1 J (zz ?_))))
    refine Q9 J (fun h8 => ?_) (fun h8 => ?_)
    ·refine zy (z1 rfl (zz (Q8 (B_r (T_r (B_r (T_r ?_)))))))
     refine T_r (B_r (B_r (T_r (T_r (B_r (T_r (F_r ?_)))))))
     exact Ke J (Kf [] J J (Xf (hbad (hcn.trans (by simp [tileM,ht7]))).symm))
    ·simp only [Bool.and_eq_false_iff,Bool.or_eq_false_iff,Bool.false_or,decide_eq_false_iff_not,Classical.not_not] at h8
     omega
  ·have h5 : c = w := by have := of_decide_eq_false h5; omega
   rw [h5] at hp_D
   rw [hp_D] at hrn
   refine Q7 (T_x (T_x (Xg (Q0 (Qz (Qc (z0 J (Kd J (z1 J (zz ?_))))))))))
   exact ⟨rows.length - (k + 1),by omega,_,⟨k + 1,u,by omega,⟨hrn,fun _ => h1⟩,J⟩,Kb [0,1]⟩
 ·have h3 : ¬ ((k : Int) < (els rows).length) := of_decide_eq_false h
  have hk : k = rows.length := by omega
  subst hk
  refine Q7 (T_x (T_x (Xg (Qz (zy (z0 J (z1 J (zz (Q8 ?_)))))))));refine F_r ?_
  exact Ke J (Kf [] J J (Xf (by
   unfold levelOk
   rw [hw,hp_A.1]
   have h1 := hp_A.2 (by omega)
   have : 3 ≤ rows.length ∧ rows.length ≤ 12 ∧ 4 ≤ w ∧ w ≤ 20 := by omega
   simp [this])))
end
end Go.Proofs.YtcjclaoogdblbaaDoor
