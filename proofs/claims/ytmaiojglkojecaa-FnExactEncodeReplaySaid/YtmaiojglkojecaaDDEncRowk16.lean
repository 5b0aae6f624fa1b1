/-
  Parts of the proof (rules, data, and what functions of the program and of the reference return), among them: What a valid level is, in the program and in the reference; What a valid level is: the program's LevelOk.
  Conditions: those that each theorem names.
-/
import Derived.Test.YtmaiojglkojecaaDDEncRowk14
import Derived.Test.YtmaiojglkojecaaDDEncRowk15
set_option linter.unusedSimpArgs false
set_option linter.unusedVariables false
set_option maxHeartbeats 8000000
namespace Go.Proofs.Ytmaiojglkojecaa
section
open Go.RowKit

def colM (rows : List (List Int)) (p : Nat) : List Int := rows.map fun r => r.getD p 0
def colsB (rows : List (List Int)) : Nat → ByteArray
 | 0 => bs []
 | p + 1 => colsB rows p ++ packText (packTrack (colM rows p))
theorem colsB_size (rows : List (List Int)) : ∀ p,(colsB rows p).size ≤ 2406 * p
 | 0 => by simp [colsB,Xm]
 | p + 1 => by
  rw [colsB,Xn]
  have h1 := colsB_size rows p
  have h2 := Xz (packTrack (colM rows p))
  have h3 := X0 (colM rows p)
  omega
theorem colM_len (rows : List (List Int)) (p : Nat) : (colM rows p).length = rows.length := by simp [colM]
theorem colM_gd {rows : List (List Int)} (hg : Enc.gd rows) (p : Nat) : Enc.gd (colM rows p) := by
 refine ⟨by rw [colM_len]; exact hg.1,fun x hx => ?_⟩
 obtain ⟨r,h1,rfl⟩ := List.mem_map.1 hx
 rw [List.getD_eq_getElem?_getD]
 cases h : r[p]? with
 | none => exact ⟨by decide,by decide⟩
 | some y => exact (hg.2 r h1).2 y (List.mem_of_getElem? h)
theorem colM_next {rows : List (List Int)} {p k : Nat} (hk : k < rows.length) (hp : p < rows[k].length) : els (colM (rows.take k) p) ++ [[.v (.int .i64 rows[k][p])]] = els (colM (rows.take (k + 1)) p) := by
 have h1 : rows[k].getD p 0 = rows[k][p] := by simp [List.getD_eq_getElem?_getD,hp]
 rw [List.take_succ_eq_append_getElem hk]
 unfold colM els
 rw [List.map_append,List.map_append,List.map_cons,List.map_nil,List.map_cons,List.map_nil,h1]
 rfl
theorem S_column (rows : List (List Int)) (p : Nat) (hg : Enc.gd rows) (hL : rows.length ≤ 400) (hall : ∀ r ∈ rows,p < r.length) : Con Try.prog 17 [] [al rows,ai p] [.row 1 (els (colM rows p))] (.o (.c (.ref 0))) := by
 have hlx := Xp rows
 refine Con.of Try.func17 J Try.ntmps17 J (fun E => ?_)
 refine zy (z1 J (zz (zy (M1 (q_bslice0 J J J) J J (z1 J (zz (Qd ?_)))))));refine zy (z1 J (zz (Qk ?_)));refine A_lq (fun m st => ∃ k : Nat,k + m = rows.length ∧ (True) ∧ st = (⟨_,[(0,L rows),(1,I p),(5,.o (.c (.ref 0))),(6,I k)],[.row 1 (els (colM (rows.take k) p))]⟩ : St)) (rows.length) ⟨_,⟨0,by omega,trivial,J⟩,Zj [0]⟩ ?_
 rintro m_A _ ⟨k,hk_A,hp_A,rfl⟩
 refine Qd (zy (z0 J (z0 J (zx (X4 J J J) J (zx (Yi J) J (zz ?_))))))
 refine Q7 J (fun h => ?_) (fun h => ?_)
 ·have h3 : k < rows.length := by have := of_decide_eq_true h; omega
  have hat := Xo h3
  have hp := hall _ (List.getElem_mem h3)
  have hat2 := Xo hp
  have hlc : (els (colM (rows.take k) p)).length = k := by rw [Xp,colM_len]; simp; omega
  refine Qh (Qz (Qd (Qk (Qc (z0 J (z0 J (z0 J (zx (Q1 J J J J (by omega) (by assumption) J) J (zx (Y9 J) J (z0 J (zx (Q1 J J J J (by omega) (by assumption) J) J ?_)))))))))));refine zx (Y9 J) J (M1 (X1 J J J J J J) J J ?_);refine M_appsb J J J J J J J J J J (by omega) (by omega) ?_;refine z1 J (Qe (Q0 (Qz (Qc (z0 J (Zb J (z1 J (zz ?_))))))))
  exact ⟨rows.length - (k + 1),by omega,(fun k : Nat => (⟨_,[(0,L rows),(1,I p),(5,.o (.c (.ref 0))),(6,I k)],[.row 1 (els (colM (rows.take k) p))]⟩ : St)) (k + 1),⟨k + 1,by omega,trivial,J⟩,Xi [0] (by decide) J (X9 (colM_next h3 hp).symm) (.c J (.c J (.c J (.c J (.nil)))))⟩
 ·have h3 : ¬ ((k : Int) < (els rows).length) := of_decide_eq_false h
  have hk : rows.take k = rows := List.take_of_length_le (by omega)
  refine Q5 (T_x (T_x (B_xs (Qz (zy (z0 J (z1 J (zz (Q6 ?_)))))))));refine F_r ?_
  exact Y5 J (Y6 [0] J (X9 (by rw [hk])) J)
theorem I_packColumns (rows : List (List Int)) (p : Nat) (hg : Enc.gd rows) (hL : rows.length ≤ 400) (hp4 : p ≤ 4) (hall : ∀ r ∈ rows,r.length = p) : Con Try.prog 27 [] [al rows,ai p] [] (S (colsB rows p)) := by
 have hlx := Xp rows
 refine Con.of Try.func27 J Try.ntmps27 J (fun E => ?_)
 refine zy (z1 J (zz (zy (z1 J (zz (Qd (Qd ?_)))))));refine Qc (z1 J (zz (Qk ?_)));refine A_lq (fun m st => ∃ q : Nat,q + m = p ∧ (True) ∧ st = (⟨_,[(0,L rows),(1,I p),(5,S (colsB rows q)),(6,I q)],[]⟩ : St)) (p) ⟨_,⟨0,by omega,trivial,J⟩,Zj []⟩ ?_
 rintro m_A _ ⟨q,hk_A,hp_A,rfl⟩
 refine Qd (zy (z0 J (z0 J (zx (Yi J) J (zz ?_)))))
 refine Q7 J (fun h => ?_) (fun h => ?_)
 ·have hq : q < p := by have := of_decide_eq_true h; omega
  refine Qh (Qz (Qd (Qk (zy (z1 J (zz (Qd (zy ?_))))))));refine z0 J (zx (X4 J J J) J (z0 J (zz (Qk ?_))))
  refine AWP.pre ?_ (W_nil 7 1 J)
  skip
  refine A_lq (fun m st => ∃ k : Nat,k + m = rows.length ∧ (True) ∧ st = (⟨_,[(0,L rows),(1,I p),(5,S (colsB rows q)),(6,I q),(7,.o (.c (.ref 0))),(15,L rows),(16,I (els rows).length),(17,I k)],[.row 1 (els (colM (rows.take k) q))]⟩ : St)) (rows.length) ⟨_,⟨0,by omega,trivial,J⟩,Zj [0]⟩ ?_
  rintro m_D _ ⟨k,hk_D,hp_D,rfl⟩
  refine zy (zx (Yi J) J (zz (Qd ?_)))
  refine Q7 J (fun h => ?_) (fun h => ?_)
  ·have h3 : k < rows.length := by have := of_decide_eq_true h; omega
   have hat := Xo h3
   have hp := hall _ (List.getElem_mem h3)
   have hat2 := Xo (show q < rows[k].length by omega)
   have hlc : (els (colM (rows.take k) q)).length = k := by rw [Xp,colM_len]; simp; omega
   refine Qh (Qz (Qd (Qk (zy (zx (Q1 J J J J (by omega) (by assumption) J) J (zx (Y9 J) J (z1 J (zz (Qc ?_)))))))));refine z0 J (z0 J (z0 J (zx (Q1 J J J J (by omega) (by assumption) J) J (zx (Y9 J) J (M1 (X1 J J J J J J) J J ?_)))));refine M_appsb J J J J J J J J J J (by omega) (by omega) ?_;refine z1 J (Qe (Q0 (Qz (Qc (Zb J (z0 J (zz ?_)))))))
   exact ⟨rows.length - (k + 1),by omega,(fun k : Nat => (⟨_,[(0,L rows),(1,I p),(5,S (colsB rows q)),(6,I q),(7,.o (.c (.ref 0))),(15,L rows),(16,I (els rows).length),(17,I k)],[.row 1 (els (colM (rows.take k) q))]⟩ : St)) (k + 1),⟨k + 1,by omega,trivial,J⟩,Xi [0] (by decide) J (X9 (colM_next h3 (by omega)).symm) (.c J (.c J (.c J (.c J (.c J (.c J (.c J (.c J (.nil)))))))))⟩
  ·have h3 : ¬ ((k : Int) < (els rows).length) := of_decide_eq_false h
   have hk : rows.take k = rows := List.take_of_length_le (by omega)
   have hs1 := colsB_size rows q
   have hs2 := X0 (colM rows q)
   have hs3 := Xz (packTrack (colM rows q))
   rw [hk]
   refine Q5 (T_x (T_x (B_xs (Qz (Qc (z0 J (z0 J ?_)))))));refine zx (Qj J J (I_PackTrack (colM rows q) (colM_gd hg q)) J) J ?_;refine zx (Qj J J (I_PackText (packTrack (colM rows q)) (by omega)) J) J ?_;refine zx (q_cat J J J J (by omega)) J (z1 J (Qe (Q0 (Qz (Qc (z0 J (Zb J (z1 J (zz ?_)))))))))
   exact ⟨p - (q + 1),by omega,_,⟨q + 1,by omega,trivial,J⟩,Zj []⟩
 ·have hq : q = p := by have := of_decide_eq_false h; omega
  refine Q5 (T_x (T_x (B_xs (Qz (zy (z0 J (z1 J (zz (Q6 ?_)))))))));refine F_r ?_
  exact Y5 J (Y6 [] J J (S_eq (by rw [hq])))
end
section
open Go.RowKit

abbrev Seen := Bool × Bool × Bool × Bool
def tileM (e : Bool) (t : Int) (s : Seen × Bool) : Option (Seen × Bool) :=
 if t = 35 then some s else if e then none else
 if t = 49 then (if s.1.1 then none else some ((true,s.1.2),true)) else
 if t = 50 then (if s.1.2.1 then none else some ((s.1.1,true,s.1.2.2),true)) else
 if t = 51 then (if s.1.2.2.1 then none else some ((s.1.1,s.1.2.1,true,s.1.2.2.2),true)) else
 if t = 52 then (if s.1.2.2.2 then none else some ((s.1.1,s.1.2.1,s.1.2.2.1,true),true)) else
 if t = 111 ∨ t = 46 then some (s.1,true) else none
def colsM (row : ByteArray) (er : Bool) (w : Nat) (s : Seen × Bool) : Nat → Option (Seen × Bool)
 | 0 => some s
 | c + 1 => match colsM row er w s c with
  | none => none
  | some s' => tileM (er || decide (c = 0) || decide (c + 1 = w)) (byteAt row c) s'
def rowsM (rows : List ByteArray) (w : Nat) : Nat → Option (Seen × Bool)
 | 0 => some ((false,false,false,false),false)
 | r + 1 => match rowsM rows w r with
  | none => none
  | some s => match rows[r]? with
   | none => none
   | some row => if row.size = w then colsM row (decide (r = 0) || decide (r + 1 = rows.length)) w s w else none
def widthM (rows : List ByteArray) : Nat := match rows[0]? with
 | some row => row.size
 | none => 0
def levelOk (l : TLevel) : Bool := decide (3 ≤ l.Rows.length) && decide (l.Rows.length ≤ 12) && decide (4 ≤ widthM l.Rows) && decide (widthM l.Rows ≤ 20) && match rowsM l.Rows (widthM l.Rows) l.Rows.length with
 | some s => s.2
 | none => false

@[reducible] def vb (b : Bool) : V1 := .rd [] (.v (.bool b))
section
variable {rows : List ByteArray} {row : ByteArray} {w k c : Nat} {s s' : Seen × Bool} {er : Bool}
theorem rows_none {n : Nat} (h : rowsM rows w k = none) (hk : k ≤ n) : rowsM rows w n = none := by
 induction n with
 | zero => have : k = 0 := by omega
           subst this; exact h
 | succ n ih =>
  rcases Nat.lt_or_ge n k with h1 | h1
  ·have : k = n + 1 := by omega
   subst this; exact h
  ·simp [rowsM,ih h1]
theorem cols_none {n : Nat} (h : colsM row er w s c = none) (hc : c ≤ n) : colsM row er w s n = none := by
 induction n with
 | zero => have : c = 0 := by omega
           subst this; exact h
 | succ n ih =>
  rcases Nat.lt_or_ge n c with h1 | h1
  ·have : c = n + 1 := by omega
   subst this; exact h
  ·simp [colsM,ih h1]
theorem rows_next (h : rowsM rows w k = some s) (hk : k < rows.length) (hw : rows[k].size = w) : rowsM rows w (k + 1) = colsM rows[k] (decide (k = 0) || decide (k + 1 = rows.length)) w s w := by
 rw [rowsM,h]
 simp [List.getElem?_eq_getElem hk,hw]
theorem rows_bad (hk : k < rows.length) (hw : rows[k].size ≠ w) : rowsM rows w (k + 1) = none := by
 rw [rowsM]
 cases rowsM rows w k with
 | none => rfl
 | some s => simp [List.getElem?_eq_getElem hk,hw]
theorem cols_next (h : colsM row er w s c = some s') : colsM row er w s (c + 1) = tileM (er || decide (c = 0) || decide (c + 1 = w)) (byteAt row c) s' := by
 rw [colsM,h]
theorem level_no {l : TLevel} (hk : k < l.Rows.length) (hw : widthM l.Rows = w) (h : rowsM l.Rows w (k + 1) = none) : levelOk l = false := by
 unfold levelOk
 rw [hw,rows_none h (by omega)]
 simp
theorem width_at (h : 0 < rows.length) : widthM rows = rows[0].size := by simp [widthM,List.getElem?_eq_getElem h]
end
end
section
open Go.RowKit

theorem I_LevelOk (x : TLevel) (hg : Enc.gd x) : Con Try.prog 42 [] [ag x] [] (B (levelOk x)) := by
 obtain ⟨rows⟩ := x
 have hn : Enc.gd rows := hg
 have hn1 := hn.1
 have hlx := Xp rows
 refine Con.of Try.func42 J Try.ntmps42 J (fun E => ?_)
 refine zy (M1 (Zn J) J J (z1 J (zz (Qd (zy (z2 J J J (z3 J (zx (X4 J J J) J ?_))))))));refine zx (Yi J) J (z0 J ?_);refine zx (Qt.grdF J J J .stop (fun hgrd => Yq J J)) J ?_;refine zx (Z2 J (.hit .stop) (fun hgrd => Qg J J J J J)) J ?_;refine zx (Z2 J (.hit (.hit .stop)) (fun hgrd => X4 J J J)) J ?_;refine zx (Z2 J (.hit (.hit (.hit .stop))) (fun hgrd => q_gtr J J J J)) J ?_;refine zx (q_or J J J J) J (zz ?_)
 refine Q7 J (fun h => ?_) (fun h => ?_)
 ·simp only [Bool.or_eq_true,decide_eq_true_eq] at h
  refine zy (z1 J (zz (Q6 (T_r (F_r ?_)))))
  exact Y5 J (Y6 [] J J (Xc (by simp [levelOk]; omega)))
 simp only [Bool.or_eq_false_iff,decide_eq_false_iff_not] at h
 have h0 : 0 < rows.length := by omega
 have hat0 : (els rows)[(0 : Int).toNat]? = some (Enc.e rows[0]) := Xo h0
 have hw := width_at h0
 refine Qh (Qz (zy (z2 J J J (z3 J (zx (Q1 J J J J (by omega) (by assumption) J) J (zx (Y9 J) J (zx (q_lens J J J) J (z1 J (zz ?_)))))))));refine Qd (zy (z0 J (zx (Yi J) J (z0 J ?_))));refine zx (Qt.grdF J J J .stop (fun hgrd => Yo J)) J ?_;refine zx (Z2 J (.hit .stop) (fun hgrd => q_gtr J J J J)) J ?_;refine zx (q_or J J J J) J (zz ?_)
 refine Q7 J (fun h1 => ?_) (fun h1 => ?_)
 ·simp only [Bool.or_eq_true,decide_eq_true_eq] at h1
  refine zy (z1 J (zz (Q6 (T_r (F_r ?_)))))
  exact Y5 J (Y6 [] J J (Xc (by simp [levelOk]; omega)))
 simp only [Bool.or_eq_false_iff,decide_eq_false_iff_not] at h1
 obtain ⟨w,hw'⟩ : ∃ w,w = rows[0].size := ⟨_,rfl⟩
 rw [← hw'] at hw h1
 refine Qh (Qz (zy (M1 (Qx J J J) J J (zz (zy (z1 J (zz ?_)))))));refine Qd (zy (z2 J J J (z3 J (zx (X4 J J J) J (z0 J (zz (Qk ?_)))))));refine A_lq (fun m st => ∃ (k : Nat) (s : Seen × Bool),k + m = rows.length ∧ (rowsM rows w k = some s) ∧ st = (⟨_,[(1,.o (.c (.ptr 0 0))),(3,I w),(4,.o (.c (.ptr 1 0))),(5,B s.2),(33,L rows),(34,I (els rows).length),(35,I k)],[.box [.rd [] (sl rows)],.box [vb false,vb s.1.1,vb s.1.2.1,vb s.1.2.2.1,vb s.1.2.2.2]]⟩ : St)) (rows.length) ⟨(fun (k : Nat) (s : Seen × Bool) => (⟨_,[(1,.o (.c (.ptr 0 0))),(3,I w),(4,.o (.c (.ptr 1 0))),(5,B s.2),(33,L rows),(34,I (els rows).length),(35,I k)],[.box [.rd [] (sl rows)],.box [vb false,vb s.1.1,vb s.1.2.1,vb s.1.2.2.1,vb s.1.2.2.2]]⟩ : St)) 0 (((false,false,false,false),false)),⟨0,((false,false,false,false),false),by omega,J,J⟩,Y2 [0,1] J (.c J (.cons (I_eq (by omega)) (.c J (.c J (.c J (.c J (.c J (.nil))))))))⟩ ?_
 rintro m_A _ ⟨k,s,hk_A,hp_A,rfl⟩
 refine zy (zx (Yi J) J (zz (Qd ?_)))
 refine Q7 J (fun h => ?_) (fun h => ?_)
 ·have h3 : k < rows.length := by have := of_decide_eq_true h; omega
  have hat := Xo h3
  have hgk : rows[k].size ≤ 9223372036854775807 := hn.2 _ (List.getElem_mem h3)
  refine Qh (Qz (Qd (Qk (zy (z0 J (zx (Q1 J J J J (by omega) (by assumption) J) J (zx (Y9 J) J (z1 J (z1 J (Qe ?_))))))))));refine Qz (Qd (zy (z0 J (zx (q_lens J J J) J (z0 J (zx (q_neq J J J J) J (zz ?_)))))))
  refine Q7 J (fun h4 => ?_) (fun h4 => ?_)
  ·have h4 : ¬ rows[k].size = w := by have := of_decide_eq_true h4; omega
   refine zy (z1 J (zz (Q6 (T_r (B_r (T_r (T_r (B_r (T_r ?_)))))))));refine F_r ?_
   exact Y5 J (Y6 [] J J (Xc (level_no (l := ⟨rows⟩) h3 hw (rows_bad h3 h4)).symm))
  have h4 : rows[k].size = w := by have := of_decide_eq_false h4; omega
  have hrn := rows_next hp_A h3 h4
  obtain ⟨er,her⟩ : ∃ er,er = (decide (k = 0) || decide (k + 1 = rows.length)) := ⟨_,rfl⟩
  rw [← her] at hrn
  refine Qh (Qz (zy (z1 J (zz (Qk ?_)))));refine A_lq (fun m st => ∃ (c : Nat) (u : Seen × Bool),c + m = w ∧ (colsM rows[k] er w s c = some u) ∧ st = (⟨_,[(1,.o (.c (.ptr 0 0))),(3,I w),(4,.o (.c (.ptr 1 0))),(5,B u.2),(6,I k),(7,S rows[k]),(8,I c),(33,L rows),(34,I (els rows).length),(35,I k)],[.box [.rd [] (sl rows)],.box [vb false,vb u.1.1,vb u.1.2.1,vb u.1.2.2.1,vb u.1.2.2.2]]⟩ : St)) (w) ⟨_,⟨0,s,by omega,J,J⟩,Zj [0,1]⟩ ?_
  rintro m_D _ ⟨c,u,hk_D,hp_D,rfl⟩
  refine Qd (zy (z0 J (z0 J (zx (Yi J) J (zz ?_)))))
  refine Q7 J (fun h5 => ?_) (fun h5 => ?_)
  ·have h5 : c < w := by have := of_decide_eq_true h5; omega
   have hcn := cols_next hp_D
   obtain ⟨t,ht⟩ : ∃ t,byteAt rows[k] (c : Int).toNat = t := ⟨_,rfl⟩
   rw [show byteAt rows[k] c = t from ht] at hcn
   have htb : 0 ≤ t ∧ t ≤ 255 := ht ▸ byteAt_lt _ _
   obtain ⟨⟨sa,sb,sc,sd⟩,so⟩ := u
   obtain ⟨e,he⟩ : ∃ e,e = (er || decide (c = 0) || decide (c + 1 = w)) := ⟨_,rfl⟩
   rw [← he] at hcn
   refine Qh (Qz (Qd (Qk (zy (z0 J (z0 J (zx (q_byteK J J J J (by assumption) (by omega)) J (z1 J (zz ?_)))))))));refine zy (z0 J (zx (q_eql J J J J) J (z0 J ?_)));refine zx (Qt.grdF J J J .stop (fun hgrd => Yo J)) J ?_;refine zx (Z2 J (.hit .stop) (fun hgrd => Yq J J)) J ?_;refine zx (Z2 J (.hit (.hit .stop)) (fun hgrd => Qg J J J J J)) J ?_;refine zx (Z2 J (.hit (.hit (.hit .stop))) (fun hgrd => X4 J J J)) J ?_;refine zx (Z2 J (.hit (.hit (.hit (.hit .stop)))) (fun hgrd => Q8 J J J J (by omega))) J ?_;refine zx (Z2 J (.hit (.hit (.hit (.hit (.hit .stop))))) (fun hgrd => q_eql J J J J)) J ?_;refine zx (q_or J J J J) J (z0 J ?_);refine zx (Qt.grdF J J J .stop (fun hgrd => Yo J)) J ?_;refine zx (Z2 J (.hit .stop) (fun hgrd => q_eql J J J J)) J ?_;refine zx (q_or J J J J) J (z0 J ?_);refine zx (Qt.grdF J J J .stop (fun hgrd => Yo J)) J ?_;refine zx (Z2 J (.hit .stop) (fun hgrd => Yo J)) J ?_;refine zx (Z2 J (.hit (.hit .stop)) (fun hgrd => Q8 J J J J (by omega))) J ?_;refine zx (Z2 J (.hit (.hit (.hit .stop))) (fun hgrd => q_eql J J J J)) J ?_;refine zx (q_or J J J J) J (z1 J (zz (Qd (zy (z0 J (z0 J ?_))))));refine zx (Qt.grdT J J J .stop (fun hgrd => Yo J)) J ?_;refine zx (Qt.grdT J J J (.hit .stop) (fun hgrd => q_neq J J J J)) J ?_;refine zx (q_and J J J J) J (zz ?_)
   have hee : (decide ((k : Int) = 0) || decide ((k : Int) = ((els rows).length : Int) - 1) || decide ((c : Int) = 0) || decide ((c : Int) = (w : Int) - 1)) = e := by
    rw [he,her,hlx]
    have g1 : decide ((k : Int) = 0) = decide (k = 0) := by simp
    have g2 : decide ((k : Int) = (rows.length : Int) - 1) = decide (k + 1 = rows.length) := decide_eq_decide.2 (by omega)
    have g3 : decide ((c : Int) = 0) = decide (c = 0) := by simp
    have g4 : decide ((c : Int) = (w : Int) - 1) = decide (c + 1 = w) := decide_eq_decide.2 (by omega)
    rw [g1,g2,g3,g4]
   clear he her
   have hbad : colsM rows[k] er w s (c + 1) = none → levelOk ⟨rows⟩ = false := fun hc => level_no (l := ⟨rows⟩) h3 hw (hrn.trans (cols_none hc (by omega)))
   refine Q7 J (fun h6 => ?_) (fun h6 => ?_)
   ·rw [hee] at h6
    simp only [Bool.and_eq_true,decide_eq_true_eq] at h6
    refine zy (z1 J (zz (Q6 (T_r (B_r (T_r (T_r (B_r (B_r ?_)))))))));refine T_r (T_r (B_r (T_r (F_r ?_))))
    exact Y5 J (Y6 [] J J (Xc (hbad (hcn.trans (by simp [tileM,h6]))).symm))
   rw [hee] at h6
   have h7 : t = 35 ∨ e = false := by
    simp only [Bool.and_eq_false_iff,decide_eq_false_iff_not,Classical.not_not] at h6
    exact h6.symm
   clear h6 hee
   refine AWP.pre (st' := (⟨_,[(1,.o (.c (.ptr 0 0))),(3,I w),(4,.o (.c (.ptr 1 0))),(5,B so),(6,I k),(7,S rows[k]),(8,I c),(9,VI .u8 t),(33,L rows),(34,I (els rows).length),(35,I k)],[.box [.rd [] (sl rows)],.box [vb false,vb sa,vb sb,vb sc,vb sd]]⟩ : St)) ?_ (Zj [0,1])
   rcases h7 with rfl | h7
   ·refine Qh (Qz (Qd (Qk (zy (z0 rfl ?_)))))
    refine zx (X3 (b := false) J J J J (by decide)) J ?_;refine z0 J (z6 J (z6 J (zpF J (z1 J (zz (Ql J (zy (z0 J ?_))))))));refine zx (Qw (b := false) J J J J (by decide)) J ?_;refine z0 J (z6 J (z6 J (zpF J (z0 J (z6 J (z6 J (zpF J (z1 J (zz (Ql J ?_))))))))));refine Qh (Q0 (Qz (zy (z0 J ?_))));refine zx (Qw (b := false) J J J J (by decide)) J ?_;refine zz (Ql J (Qh (Q0 (Qz (Qc (z0 J (Zb J (z1 J (zz ?_)))))))))
    exact ⟨w - (c + 1),by omega,_,⟨c + 1,((sa,sb,sc,sd),so),by omega,hcn.trans (by simp [tileM]),J⟩,Zj [0,1]⟩
   subst h7
   rcases (by omega : t = 35 ∨ t = 49 ∨ t = 50 ∨ t = 51 ∨ t = 52 ∨ t = 111 ∨ t = 46 ∨ (t ≠ 35 ∧ t ≠ 49 ∧ t ≠ 50 ∧ t ≠ 51 ∧ t ≠ 52 ∧ t ≠ 111 ∧ t ≠ 46)) with rfl | rfl | rfl | rfl | rfl | rfl | rfl | ht7
   ·refine Qh (Qz (Qd (Qk (zy (z0 rfl ?_)))))
    refine zx (X3 (b := false) J J J J (by decide)) J ?_;refine z0 J (z6 J (z6 J (zpF J (z1 J (zz (Ql J (zy (z0 J ?_))))))));refine zx (Qw (b := false) J J J J (by decide)) J ?_;refine z0 J (z6 J (z6 J (zpF J (z0 J (z6 J (z6 J (zpF J (z1 J (zz (Ql J ?_))))))))));refine Qh (Q0 (Qz (zy (z0 J ?_))));refine zx (Qw (b := false) J J J J (by decide)) J ?_;refine zz (Ql J (Qh (Q0 (Qz (Qc (z0 J (Zb J (z1 J (zz ?_)))))))))
    exact ⟨w - (c + 1),by omega,_,⟨c + 1,((sa,sb,sc,sd),so),by omega,hcn.trans (by simp [tileM]),J⟩,Zj [0,1]⟩
   ·refine Qh (Qz (Qd (Qk (zy (z0 rfl ?_)))))
    refine zx (X3 (b := true) J J J J (by decide)) J ?_;refine z0 J (z5 J (z0 J (z5 J ?_)));refine zx (q_leqK (b := true) J J J J (by decide)) J ?_;refine zpT J (z1 J (zz (Qm J (Qd (zy (z0 J (zx (X7 J J J J (by omega)) J (zx (q_aidx J J J J (by omega)) J (z3 J ?_)))))))));refine zz ?_
    refine Q7 J (fun h8 => ?_) (fun h8 => ?_)
    ·have h8 : sa = true := h8
     subst h8
     refine zy (z1 J (zz (Q6 (T_r (B_r (T_r (B_r (T_r (T_r ?_)))))))));refine B_r (B_r (T_r (T_r (B_r (T_r (F_r ?_))))))
     exact Y5 J (Y6 [] J J (Xc (hbad (hcn.trans (by simp [tileM]))).symm))
    ·have h8 : sa = false := h8
     subst h8
     refine Qh (Qz (Qc (z0 J (zx (X7 J J J J (by omega)) J (zx (q_aidx J J J J (by omega)) J ?_)))));refine Q4 J J J J J J J J (Qe (Q0 (Qz (zy (z0 J ?_)))));refine zx (Qw (b := true) J J J J (by decide)) J ?_;refine zz (Qm J (Qc (z1 J (Qe (Q0 (Qz (Qc (z0 J (Zb J (z1 J ?_))))))))));refine zz ?_
     exact ⟨w - (c + 1),by omega,_,⟨c + 1,((true,sb,sc,sd),true),by omega,hcn.trans (by simp [tileM]),J⟩,Zj [0,1]⟩
   ·refine Qh (Qz (Qd (Qk (zy (z0 rfl ?_)))))
    refine zx (X3 (b := true) J J J J (by decide)) J ?_;refine z0 J (z5 J (z0 J (z5 J ?_)));refine zx (q_leqK (b := true) J J J J (by decide)) J ?_;refine zpT J (z1 J (zz (Qm J (Qd (zy (z0 J (zx (X7 J J J J (by omega)) J (zx (q_aidx J J J J (by omega)) J (z3 J ?_)))))))));refine zz ?_
    refine Q7 J (fun h8 => ?_) (fun h8 => ?_)
    ·have h8 : sb = true := h8
     subst h8
     refine zy (z1 J (zz (Q6 (T_r (B_r (T_r (B_r (T_r (T_r ?_)))))))));refine B_r (B_r (T_r (T_r (B_r (T_r (F_r ?_))))))
     exact Y5 J (Y6 [] J J (Xc (hbad (hcn.trans (by simp [tileM]))).symm))
    ·have h8 : sb = false := h8
     subst h8
     refine Qh (Qz (Qc (z0 J (zx (X7 J J J J (by omega)) J (zx (q_aidx J J J J (by omega)) J ?_)))));refine Q4 J J J J J J J J (Qe (Q0 (Qz (zy (z0 J ?_)))));refine zx (Qw (b := true) J J J J (by decide)) J ?_;refine zz (Qm J (Qc (z1 J (Qe (Q0 (Qz (Qc (z0 J (Zb J (z1 J ?_))))))))));refine zz ?_
     exact ⟨w - (c + 1),by omega,_,⟨c + 1,((sa,true,sc,sd),true),by omega,hcn.trans (by simp [tileM]),J⟩,Zj [0,1]⟩
   ·refine Qh (Qz (Qd (Qk (zy (z0 rfl ?_)))))
    refine zx (X3 (b := true) J J J J (by decide)) J ?_;refine z0 J (z5 J (z0 J (z5 J ?_)));refine zx (q_leqK (b := true) J J J J (by decide)) J ?_;refine zpT J (z1 J (zz (Qm J (Qd (zy (z0 J (zx (X7 J J J J (by omega)) J (zx (q_aidx J J J J (by omega)) J (z3 J ?_)))))))));refine zz ?_
    refine Q7 J (fun h8 => ?_) (fun h8 => ?_)
    ·have h8 : sc = true := h8
     subst h8
     refine zy (z1 J (zz (Q6 (T_r (B_r (T_r (B_r (T_r (T_r ?_)))))))));refine B_r (B_r (T_r (T_r (B_r (T_r (F_r ?_))))))
     exact Y5 J (Y6 [] J J (Xc (hbad (hcn.trans (by simp [tileM]))).symm))
    ·have h8 : sc = false := h8
     subst h8
     refine Qh (Qz (Qc (z0 J (zx (X7 J J J J (by omega)) J (zx (q_aidx J J J J (by omega)) J ?_)))));refine Q4 J J J J J J J J (Qe (Q0 (Qz (zy (z0 J ?_)))));refine zx (Qw (b := true) J J J J (by decide)) J ?_;refine zz (Qm J (Qc (z1 J (Qe (Q0 (Qz (Qc (z0 J (Zb J (z1 J ?_))))))))));refine zz ?_
     exact ⟨w - (c + 1),by omega,_,⟨c + 1,((sa,sb,true,sd),true),by omega,hcn.trans (by simp [tileM]),J⟩,Zj [0,1]⟩
   ·refine Qh (Qz (Qd (Qk (zy (z0 rfl ?_)))))
    refine zx (X3 (b := true) J J J J (by decide)) J ?_;refine z0 J (z5 J (z0 J (z5 J ?_)));refine zx (q_leqK (b := true) J J J J (by decide)) J ?_;refine zpT J (z1 J (zz (Qm J (Qd (zy (z0 J (zx (X7 J J J J (by omega)) J (zx (q_aidx J J J J (by omega)) J (z3 J ?_)))))))));refine zz ?_
    refine Q7 J (fun h8 => ?_) (fun h8 => ?_)
    ·have h8 : sd = true := h8
     subst h8
     refine zy (z1 J (zz (Q6 (T_r (B_r (T_r (B_r (T_r (T_r ?_)))))))));refine B_r (B_r (T_r (T_r (B_r (T_r (F_r ?_))))))
     exact Y5 J (Y6 [] J J (Xc (hbad (hcn.trans (by simp [tileM]))).symm))
    ·have h8 : sd = false := h8
     subst h8
     refine Qh (Qz (Qc (z0 J (zx (X7 J J J J (by omega)) J (zx (q_aidx J J J J (by omega)) J ?_)))));refine Q4 J J J J J J J J (Qe (Q0 (Qz (zy (z0 J ?_)))));refine zx (Qw (b := true) J J J J (by decide)) J ?_;refine zz (Qm J (Qc (z1 J (Qe (Q0 (Qz (Qc (z0 J (Zb J (z1 J ?_))))))))));refine zz ?_
     exact ⟨w - (c + 1),by omega,_,⟨c + 1,((sa,sb,sc,true),true),by omega,hcn.trans (by simp [tileM]),J⟩,Zj [0,1]⟩
   ·refine Qh (Qz (Qd (Qk (zy (z0 rfl ?_)))))
    refine zx (X3 (b := true) J J J J (by decide)) J ?_;refine z0 J (z5 J (z0 J (z5 J ?_)));refine zx (q_leqK (b := false) J J J J (by decide)) J ?_;refine zpT J (z1 J (zz (Ql J (zy (z0 J ?_)))));refine zx (Qw (b := true) J J J J (by decide)) J ?_;refine z0 J (z5 J (z0 J (z5 J ?_)));refine zx (Qw (b := false) J J J J (by decide)) J ?_;refine zpT J (z0 J (z6 J (z6 J (zpF J (z1 J (zz (Ql J (Qh (Q0 (Qz ?_))))))))));refine zy (z0 J ?_);refine zx (Qw (b := true) J J J J (by decide)) J ?_;refine zz (Qm J (Qc (z1 J (Qe (Q0 (Qz (Qc (z0 J (Zb J (z1 J ?_))))))))));refine zz ?_
    exact ⟨w - (c + 1),by omega,_,⟨c + 1,((sa,sb,sc,sd),true),by omega,hcn.trans (by simp [tileM]),J⟩,Zj [0,1]⟩
   ·refine Qh (Qz (Qd (Qk (zy (z0 rfl ?_)))))
    refine zx (X3 (b := false) J J J J (by decide)) J ?_;refine z0 J (z6 J (z6 J (zpF J (z1 J (zz (Ql J (zy (z0 J ?_))))))));refine zx (Qw (b := true) J J J J (by decide)) J ?_;refine z0 J (z5 J (z0 J (z5 J ?_)));refine zx (Qw (b := true) J J J J (by decide)) J ?_;refine zpT J (z0 J (z5 J (z0 J (z5 J ?_))));refine zx (Qw (b := false) J J J J (by decide)) J ?_;refine zpT J (z1 J (zz (Ql J (Qh (Q0 (Qz (zy (z0 J ?_))))))));refine zx (Qw (b := true) J J J J (by decide)) J ?_;refine zz (Qm J (Qc (z1 J (Qe (Q0 (Qz (Qc (z0 J (Zb J (z1 J ?_))))))))));refine zz ?_
    exact ⟨w - (c + 1),by omega,_,⟨c + 1,((sa,sb,sc,sd),true),by omega,hcn.trans (by simp [tileM]),J⟩,Zj [0,1]⟩
   ·refine Qh (Qz (Qd (Qk (zy (z0 rfl (zx (q_geq J J J J) rfl ?_))))))
    refine z0 J ?_;refine zx (Qt.grdT J J J .stop (fun hgrd => Yo J)) J ?_;refine zx (Qt.grdT J J J (.hit .stop) (fun hgrd => q_leq J J J J)) J ?_;refine zx (q_and J J J J) J (z1 J (zz ?_))
    refine Q7 J (fun h8 => ?_) (fun h8 => ?_)
    ·simp only [Bool.and_eq_true,decide_eq_true_eq] at h8
     omega
    refine zy (z0 J (zx (q_neq J J J J) J (z0 J ?_)));refine zx (Qt.grdT J J J .stop (fun hgrd => Yo J)) J ?_;refine zx (Qt.grdT J J J (.hit .stop) (fun hgrd => q_neq J J J J)) J ?_;refine zx (q_and J J J J) J (z0 J ?_);refine zx (Qt.grdT J J J .stop (fun hgrd => Yo J)) J ?_;refine zx (Qt.grdT J J J (.hit .stop) (fun hgrd => q_neq J J J J)) J ?_;refine zx (q_and J J J J) J (z1 J (zz ?_))
    refine Q7 J (fun h9 => ?_) (fun h9 => ?_)
    ·refine zy (z1 rfl (zz (Q6 (B_r (T_r (B_r (T_r ?_)))))))
     refine T_r (B_r (B_r (T_r (T_r (B_r (T_r (F_r ?_)))))))
     exact Y5 J (Y6 [] J J (Xc (hbad (hcn.trans (by simp [tileM,ht7]))).symm))
    ·simp only [Bool.and_eq_false_iff,decide_eq_false_iff_not,Classical.not_not] at h9
     omega
  ·have h5 : c = w := by have := of_decide_eq_false h5; omega
   rw [h5] at hp_D
   rw [hp_D] at hrn
   refine Q5 (T_x (T_x (B_xs (Q0 (Qz (Qc (Zb J (z0 J (zz ?_)))))))))
   exact ⟨rows.length - (k + 1),by omega,_,⟨k + 1,u,by omega,hrn,J⟩,Zj [0,1]⟩
 ·have h3 : ¬ ((k : Int) < (els rows).length) := of_decide_eq_false h
  have hk : k = rows.length := by omega
  subst hk
  refine Q5 (T_x (T_x (B_xs (Qz (zy (z0 J (z1 J (zz (Q6 ?_)))))))));refine F_r ?_
  exact Y5 J (Y6 [] J J (Xc (by
   unfold levelOk
   rw [hw,hp_A]
   have : 3 ≤ rows.length ∧ rows.length ≤ 12 ∧ 4 ≤ w ∧ w ≤ 20 := by omega
   simp [this])))
end
end Go.Proofs.Ytmaiojglkojecaa
