/-
  Parts of the proof (rules, data, and what functions of the program and of the reference return), among them: A replay as bytes; FormatLevel and EncodeReplay of the reference.
  Conditions: those that each theorem names.
-/
import Derived.Test.YtmaiojglkojecaaDDEncRowk14
import Derived.Test.YtmaiojglkojecaaDDEncRowk16
set_option linter.unusedSimpArgs false
set_option linter.unusedVariables false
set_option maxRecDepth 8000
set_option maxHeartbeats 8000000
namespace Go.Proofs.Ytmaiojglkojecaa
section
open Go.RowKit

theorem S_LevelOk (x : TLevel) (hg : Enc.gd x) : Con Try.prog 34 [] [ag x] [] (B (levelOk x)) := by
 obtain ⟨rows⟩ := x
 have hn : Enc.gd rows := hg
 have hn1 := hn.1
 have hlx := Xp rows
 refine Con.of Try.func34 J Try.ntmps34 J (fun E => ?_)
 refine zy (M1 (Zn J) J J (z1 J (zz (Qd (zy (z2 J J J (z3 J (zx (X4 J J J) J ?_))))))));refine zx (Qj J J (S_in (els rows).length 3 12) J) J ?_;refine zn J (zz ?_)
 refine Q7 J (fun h => ?_) (fun h => ?_)
 ·refine zy (z1 rfl (zz (Q6 (T_r (F_r ?_)))))
  exact Y5 J (Y6 [] J J (Xc (by simp [inR] at h; simp [levelOk]; omega)))
 have h : 3 ≤ rows.length ∧ rows.length ≤ 12 := by simp [inR] at h; omega
 have h0 : 0 < rows.length := by omega
 have hat0 : (els rows)[(0 : Int).toNat]? = some (Enc.e rows[0]) := Xo h0
 have hw := width_at h0
 obtain ⟨w,hw'⟩ : ∃ w,w = rows[0].size := ⟨_,rfl⟩
 rw [← hw'] at hw
 have hg0 : rows[0].size ≤ 9223372036854775807 := hn.2 _ (List.getElem_mem h0)
 refine Qh (Qz (zy (z2 J J J (z3 J (zx (Q1 J J J J (by omega) (by assumption) J) J (zx (Y9 J) J (zx (q_lens J J J) J (z1 J (zz ?_)))))))));refine zy (z1 J (zz (zy (M1 (X1 J J J J J J) J J (z1 J (zz (Qd ?_)))))));refine zy (z1 J (zz (Qk ?_)));refine A_lq (fun m st => ∃ (k : Nat) (s : Seen × Bool),k + m = rows.length ∧ (rowsM rows w k = some s ∧ (0 < k → 4 ≤ w ∧ w ≤ 20)) ∧ st = (⟨_,[(1,.o (.c (.ptr 0 0))),(3,I w),(4,B s.2),(5,.o (.c (.sb 1 4 1))),(6,I k)],[.box [.rd [] (sl rows)],.box [vb s.1.1,vb s.1.2.1,vb s.1.2.2.1,vb s.1.2.2.2]]⟩ : St)) (rows.length) ⟨(fun (k : Nat) (s : Seen × Bool) => (⟨_,[(1,.o (.c (.ptr 0 0))),(3,I w),(4,B s.2),(5,.o (.c (.sb 1 4 1))),(6,I k)],[.box [.rd [] (sl rows)],.box [vb s.1.1,vb s.1.2.1,vb s.1.2.2.1,vb s.1.2.2.2]]⟩ : St)) 0 (((false,false,false,false),false)),⟨0,((false,false,false,false),false),by omega,⟨J,by omega⟩,J⟩,Y2 [0,1] J (.c J (.cons (I_eq (by omega)) (.c J (.c J (.c J (.nil))))))⟩ ?_
 rintro m_A _ ⟨k,s,hk_A,hp_A,rfl⟩
 refine Qd (zy (z0 J (z2 J J J (z3 J (zx (X4 J J J) J (zx (Yi J) J (zz ?_)))))))
 refine Q7 J (fun h => ?_) (fun h => ?_)
 ·have h3 : k < rows.length := by have := of_decide_eq_true h; omega
  have hat := Xo h3
  have hwc : ((rows[0].size : Nat) : Int) = w := by omega
  have hgk : rows[k].size ≤ 9223372036854775807 := hn.2 _ (List.getElem_mem h3)
  refine Qh (Qz (Qd (Qk (Qd (zy (z2 J J J (z3 J (z0 J (zx (Q1 J J J J (by omega) (by assumption) J) J (zx (Y9 J) J ?_))))))))));refine zx (q_lens J J J) J (z0 J (zx (q_neq J J J J) J (z0 J ?_)));refine zx (Qt.grdF J J J .stop (fun hgrd => Yo J)) J ?_;refine zx (Z2 J (.hit .stop) (fun hgrd => Qj J J (S_in w 4 20) J)) J ?_;refine zx (Z2 J (.hit (.hit .stop)) (fun hgrd => Q3 J J J)) J ?_;refine zx (q_or J J J J) J (zz ?_)
  refine Q7 J (fun h4 => ?_) (fun h4 => ?_)
  ·simp only [Bool.or_eq_true,decide_eq_true_eq,Bool.not_eq_true',inR,Bool.and_eq_false_iff,decide_eq_false_iff_not] at h4
   refine zy (z1 J (zz (Q6 (T_r (B_r (T_r (T_r (B_r (T_r ?_)))))))));refine F_r ?_
   refine Y5 J (Y6 [] J J (Xc ?_))
   by_cases h4' : rows[k].size = w
   ·have : ¬ (4 ≤ w ∧ w ≤ 20) := by omega
    simp only [levelOk,hw]
    rcases Nat.lt_or_ge w 4 with h9 | h9
    ·simp [show ¬ 4 ≤ w by omega]
    ·simp [show ¬ w ≤ 20 by omega]
   ·exact (level_no (l := ⟨rows⟩) h3 hw (rows_bad h3 h4')).symm
  simp only [Bool.or_eq_false_iff,decide_eq_false_iff_not,Bool.not_eq_false',inR,Bool.and_eq_true,decide_eq_true_eq] at h4
  have h1 : 4 ≤ w ∧ w ≤ 20 := by omega
  have h4 : rows[k].size = w := by omega
  have hrn := rows_next hp_A.1 h3 h4
  obtain ⟨er,her⟩ : ∃ er,er = (decide (k = 0) || decide (k + 1 = rows.length)) := ⟨_,rfl⟩
  rw [← her] at hrn
  refine Qh (Qz (zy (z1 J (zz (Qk ?_)))));refine A_lq (fun m st => ∃ (c : Nat) (u : Seen × Bool),c + m = w ∧ (colsM rows[k] er w s c = some u) ∧ st = (⟨_,[(1,.o (.c (.ptr 0 0))),(3,I w),(4,B u.2),(5,.o (.c (.sb 1 4 1))),(6,I k),(7,I c)],[.box [.rd [] (sl rows)],.box [vb u.1.1,vb u.1.2.1,vb u.1.2.2.1,vb u.1.2.2.2]]⟩ : St)) (w) ⟨_,⟨0,s,by omega,J,J⟩,Zj [0,1]⟩ ?_
  rintro m_D _ ⟨c,u,hk_D,hp_D,rfl⟩
  refine Qd (zy (z0 J (z0 J (zx (Yi J) J (zz ?_)))))
  refine Q7 J (fun h5 => ?_) (fun h5 => ?_)
  ·have h5 : c < w := by have := of_decide_eq_true h5; omega
   have hcn := cols_next hp_D
   obtain ⟨t,ht⟩ : ∃ t,byteAt rows[k] (c : Int).toNat = t := ⟨_,rfl⟩
   rw [show byteAt rows[k] c = t from ht] at hcn
   have htb : 0 ≤ t ∧ t ≤ 255 := ht ▸ byteAt_lt _ _
   obtain ⟨⟨sa,sb,sc,sd⟩,so⟩ := u
   obtain ⟨e,he⟩ : ∃ e,e = (er || decide (c = 0) || decide (c + 1 = w)) := ⟨_,rfl⟩
   rw [← he] at hcn
   refine Qh (Qz (Qd (Qk (zy (z2 J J J (z3 J (z0 J (zx (Q1 J J J J (by omega) (by assumption) J) J (zx (Y9 J) J (z0 J ?_))))))))));refine zx (q_byteK J J J J (by assumption) (by omega)) J (z1 J (zz (zy (z0 J (zx (q_eql J J J J) J (z0 J ?_))))));refine zx (Qt.grdF J J J .stop (fun hgrd => Yo J)) J ?_;refine zx (Z2 J (.hit .stop) (fun hgrd => q_eql J J J J)) J ?_;refine zx (q_or J J J J) J (z0 J ?_);refine zx (Qt.grdF J J J .stop (fun hgrd => Yo J)) J ?_;refine zx (Z2 J (.hit .stop) (fun hgrd => Yq J J)) J ?_;refine zx (Z2 J (.hit (.hit .stop)) (fun hgrd => Qg J J J J J)) J ?_;refine zx (Z2 J (.hit (.hit (.hit .stop))) (fun hgrd => X4 J J J)) J ?_;refine zx (Z2 J (.hit (.hit (.hit (.hit .stop)))) (fun hgrd => Q8 J J J J (by omega))) J ?_;refine zx (Z2 J (.hit (.hit (.hit (.hit (.hit .stop))))) (fun hgrd => q_eql J J J J)) J ?_;refine zx (q_or J J J J) J (z0 J ?_);refine zx (Qt.grdF J J J .stop (fun hgrd => Yo J)) J ?_;refine zx (Z2 J (.hit .stop) (fun hgrd => Yo J)) J ?_;refine zx (Z2 J (.hit (.hit .stop)) (fun hgrd => Q8 J J J J (by omega))) J ?_;refine zx (Z2 J (.hit (.hit (.hit .stop))) (fun hgrd => q_eql J J J J)) J ?_;refine zx (q_or J J J J) J (z1 J (zz (Qd (Qk (zy (z0 J (zx (q_eql J J J J) J (z1 J (Qe ?_)))))))));refine Qz ?_
   have hee : (decide ((k : Int) = 0) || decide ((c : Int) = 0) || decide ((k : Int) = ((els rows).length : Int) - 1) || decide ((c : Int) = (w : Int) - 1)) = e := by
    rw [he,her,hlx]
    have g1 : decide ((k : Int) = 0) = decide (k = 0) := by simp
    have g2 : decide ((k : Int) = (rows.length : Int) - 1) = decide (k + 1 = rows.length) := decide_eq_decide.2 (by omega)
    have g3 : decide ((c : Int) = 0) = decide (c = 0) := by simp
    have g4 : decide ((c : Int) = (w : Int) - 1) = decide (c + 1 = w) := decide_eq_decide.2 (by omega)
    rw [g1,g2,g3,g4]
    cases decide (k = 0) <;> cases decide (c = 0) <;> cases decide (k + 1 = rows.length) <;> rfl
   clear he her
   have hbad : colsM rows[k] er w s (c + 1) = none → levelOk ⟨rows⟩ = false := fun hc => level_no (l := ⟨rows⟩) h3 hw (hrn.trans (cols_none hc (by omega)))
   refine AWP.pre (st' := (⟨_,[(1,.o (.c (.ptr 0 0))),(3,I w),(4,B so),(5,.o (.c (.sb 1 4 1))),(6,I k),(7,I c),(8,VI .u8 t),(9,B e),(73,B (decide (t = 35)))],[.box [.rd [] (sl rows)],.box [vb sa,vb sb,vb sc,vb sd]]⟩ : St)) ?_ (Y2 [0,1] J (.c J (.c J (.c J (.c J (.c J (.c J (.c J (.cons (Xc hee) (.c J (.nil)))))))))))
   by_cases h7 : t = 35
   ·subst h7
    refine Qm J (Qh (Q0 (Qz (Qc (z0 J (z0 J ?_))))));refine zx (Qt.grdF J J J .stop (fun hgrd => Yo J)) J ?_;refine zx (Z2 J (.hit .stop) (fun hgrd => Qw (b := false) J J J J (by decide))) J ?_;refine zx (q_or J J J J) J (z1 J (Qe (Q0 (Qz (Qc (z0 J (Zb J (z1 J (zz ?_)))))))))
    exact ⟨w - (c + 1),by omega,(fun (c : Nat) (u : Seen × Bool) => (⟨_,[(1,.o (.c (.ptr 0 0))),(3,I w),(4,B u.2),(5,.o (.c (.sb 1 4 1))),(6,I k),(7,I c)],[.box [.rd [] (sl rows)],.box [vb u.1.1,vb u.1.2.1,vb u.1.2.2.1,vb u.1.2.2.2]]⟩ : St)) (c + 1) (((sa,sb,sc,sd),so)),⟨c + 1,((sa,sb,sc,sd),so),by omega,hcn.trans (by simp [tileM]),J⟩,Y2 [0,1] J (.c J (.c J (.cons (Xc (by simp)) (.c J (.c J (.c J (.nil)))))))⟩
   cases e
   case true =>
    have f1 : decide (t = 35) = false := decide_eq_false h7
    refine Q7 J (fun h => absurd (of_decide_eq_true h) h7) (fun _ => ?_)
    refine zy (z0 J (z0 J (z6 J (z6 J (z6 J (zx (Qt.no2 J J J) J (zx (Qt.no2 J J J) J (z6 J (z6 J (zx (Qt.no2 J J J) J ?_))))))))));refine zx (Qt.no2 J J J) J (zx (Qt.no2 J J J) J (zx (Qt.no2 J J J) J (zx (Qt.no2 J J J) J (zx (Qt.no2 J J J) J (z6 J (zpT J (z1 J (zz (Qm J (Qd ?_))))))))));refine Qc (z1 J (zz (Q6 (B_r (T_r (B_r (T_r (T_r (B_r (B_r ?_))))))))));refine T_r (T_r (B_r (T_r (F_r ?_))))
    exact Y5 J (Y6 [] J J (Xc (hbad (hcn.trans (by simp [tileM,h7]))).symm))
   refine Q7 J (fun h => absurd (of_decide_eq_true h) h7) (fun _ => ?_)
   rcases (by omega : t = 49 ∨ t = 50 ∨ t = 51 ∨ t = 52 ∨ t = 111 ∨ t = 46 ∨ (t ≠ 35 ∧ t ≠ 49 ∧ t ≠ 50 ∧ t ≠ 51 ∧ t ≠ 52 ∧ t ≠ 111 ∧ t ≠ 46)) with rfl | rfl | rfl | rfl | rfl | rfl | ht7
   ·refine zy (z0 rfl (z0 rfl (z5 rfl ?_)))
    refine z0 J (z5 J ?_);refine zx (Qw (b := true) J J J J (by decide)) J ?_;refine z5 J (z0 J (z5 J (z0 J (z5 J ?_))));refine zx (Qw (b := true) J J J J (by decide)) J ?_;refine z5 J (zpT J (z5 J (z0 J (z5 J (z0 J (z5 J (Za J (z5 J (z0 J (z5 J (z0 J ?_)))))))))));refine z5 J (z9c J (by assumption) (z5 J (zpF J (z5 J (zpT J (zpF J (z1 J (zz (Ql J (Qd ?_))))))))));refine Qc (z0 J ?_);refine zx (X3 (b := true) J J J J (by decide)) J ?_;refine z0 J (z5 J (z0 J (z5 J ?_)));refine zx (q_leqK (b := true) J J J J (by decide)) J ?_;refine zpT J (z1 J (zz (Qm J (Qd (zy (z0 J (z0 J (zx (X7 J J J J (by omega)) J (zx (q_sbat J J J J (by omega)) J ?_)))))))));refine z3 J (zz ?_)
    refine Q7 J (fun h8 => ?_) (fun h8 => ?_)
    ·have h8 : sa = true := h8
     subst h8
     refine zy (z1 J (zz (Q6 (T_r (B_r (T_r (B_r (T_r (T_r ?_)))))))));refine B_r (B_r (T_r (T_r (B_r (T_r (F_r ?_))))))
     exact Y5 J (Y6 [] J J (Xc (hbad (hcn.trans (by simp [tileM]))).symm))
    ·have h8 : sa = false := h8
     subst h8
     refine Qh (Qz (Qc (z0 J (z0 J (zx (X7 J J J J (by omega)) J (zx (q_sbat J J J J (by omega)) J ?_))))));refine Q4 J J J J J J J J (Qe (Q0 (Qz (Qc (z0 J (z0 J ?_))))));refine zx (Qt.grdF J J J .stop (fun hgrd => Yo J)) J ?_;refine zx (Z2 J (.hit .stop) (fun hgrd => Qw (b := true) J J J J (by decide))) J ?_;refine zx (q_or J J J J) J (z1 J (Qe (Q0 (Qz (Qc (z0 J (Zb J (z1 J (zz ?_)))))))))
     exact ⟨w - (c + 1),by omega,(fun (c : Nat) (u : Seen × Bool) => (⟨_,[(1,.o (.c (.ptr 0 0))),(3,I w),(4,B u.2),(5,.o (.c (.sb 1 4 1))),(6,I k),(7,I c)],[.box [.rd [] (sl rows)],.box [vb u.1.1,vb u.1.2.1,vb u.1.2.2.1,vb u.1.2.2.2]]⟩ : St)) (c + 1) (((true,sb,sc,sd),true)),⟨c + 1,((true,sb,sc,sd),true),by omega,hcn.trans (by simp [tileM]),J⟩,Y2 [0,1] J (.c J (.c J (.cons (Xc (by simp)) (.c J (.c J (.c J (.nil)))))))⟩
   ·refine zy (z0 rfl (z0 rfl (z5 rfl ?_)))
    refine z0 J (z5 J ?_);refine zx (Qw (b := true) J J J J (by decide)) J ?_;refine z5 J (z0 J (z5 J (z0 J (z5 J ?_))));refine zx (Qw (b := true) J J J J (by decide)) J ?_;refine z5 J (zpT J (z5 J (z0 J (z5 J (z0 J (z5 J (Za J (z5 J (z0 J (z5 J (z0 J ?_)))))))))));refine z5 J (z9c J (by assumption) (z5 J (zpF J (z5 J (zpT J (zpF J (z1 J (zz (Ql J (Qd ?_))))))))));refine Qc (z0 J ?_);refine zx (X3 (b := true) J J J J (by decide)) J ?_;refine z0 J (z5 J (z0 J (z5 J ?_)));refine zx (q_leqK (b := true) J J J J (by decide)) J ?_;refine zpT J (z1 J (zz (Qm J (Qd (zy (z0 J (z0 J (zx (X7 J J J J (by omega)) J (zx (q_sbat J J J J (by omega)) J ?_)))))))));refine z3 J (zz ?_)
    refine Q7 J (fun h8 => ?_) (fun h8 => ?_)
    ·have h8 : sb = true := h8
     subst h8
     refine zy (z1 J (zz (Q6 (T_r (B_r (T_r (B_r (T_r (T_r ?_)))))))));refine B_r (B_r (T_r (T_r (B_r (T_r (F_r ?_))))))
     exact Y5 J (Y6 [] J J (Xc (hbad (hcn.trans (by simp [tileM]))).symm))
    ·have h8 : sb = false := h8
     subst h8
     refine Qh (Qz (Qc (z0 J (z0 J (zx (X7 J J J J (by omega)) J (zx (q_sbat J J J J (by omega)) J ?_))))));refine Q4 J J J J J J J J (Qe (Q0 (Qz (Qc (z0 J (z0 J ?_))))));refine zx (Qt.grdF J J J .stop (fun hgrd => Yo J)) J ?_;refine zx (Z2 J (.hit .stop) (fun hgrd => Qw (b := true) J J J J (by decide))) J ?_;refine zx (q_or J J J J) J (z1 J (Qe (Q0 (Qz (Qc (z0 J (Zb J (z1 J (zz ?_)))))))))
     exact ⟨w - (c + 1),by omega,(fun (c : Nat) (u : Seen × Bool) => (⟨_,[(1,.o (.c (.ptr 0 0))),(3,I w),(4,B u.2),(5,.o (.c (.sb 1 4 1))),(6,I k),(7,I c)],[.box [.rd [] (sl rows)],.box [vb u.1.1,vb u.1.2.1,vb u.1.2.2.1,vb u.1.2.2.2]]⟩ : St)) (c + 1) (((sa,true,sc,sd),true)),⟨c + 1,((sa,true,sc,sd),true),by omega,hcn.trans (by simp [tileM]),J⟩,Y2 [0,1] J (.c J (.c J (.cons (Xc (by simp)) (.c J (.c J (.c J (.nil)))))))⟩
   ·refine zy (z0 rfl (z0 rfl (z5 rfl ?_)))
    refine z0 J (z5 J ?_);refine zx (Qw (b := true) J J J J (by decide)) J ?_;refine z5 J (z0 J (z5 J (z0 J (z5 J ?_))));refine zx (Qw (b := true) J J J J (by decide)) J ?_;refine z5 J (zpT J (z5 J (z0 J (z5 J (z0 J (z5 J (Za J (z5 J (z0 J (z5 J (z0 J ?_)))))))))));refine z5 J (z9c J (by assumption) (z5 J (zpF J (z5 J (zpT J (zpF J (z1 J (zz (Ql J (Qd ?_))))))))));refine Qc (z0 J ?_);refine zx (X3 (b := true) J J J J (by decide)) J ?_;refine z0 J (z5 J (z0 J (z5 J ?_)));refine zx (q_leqK (b := true) J J J J (by decide)) J ?_;refine zpT J (z1 J (zz (Qm J (Qd (zy (z0 J (z0 J (zx (X7 J J J J (by omega)) J (zx (q_sbat J J J J (by omega)) J ?_)))))))));refine z3 J (zz ?_)
    refine Q7 J (fun h8 => ?_) (fun h8 => ?_)
    ·have h8 : sc = true := h8
     subst h8
     refine zy (z1 J (zz (Q6 (T_r (B_r (T_r (B_r (T_r (T_r ?_)))))))));refine B_r (B_r (T_r (T_r (B_r (T_r (F_r ?_))))))
     exact Y5 J (Y6 [] J J (Xc (hbad (hcn.trans (by simp [tileM]))).symm))
    ·have h8 : sc = false := h8
     subst h8
     refine Qh (Qz (Qc (z0 J (z0 J (zx (X7 J J J J (by omega)) J (zx (q_sbat J J J J (by omega)) J ?_))))));refine Q4 J J J J J J J J (Qe (Q0 (Qz (Qc (z0 J (z0 J ?_))))));refine zx (Qt.grdF J J J .stop (fun hgrd => Yo J)) J ?_;refine zx (Z2 J (.hit .stop) (fun hgrd => Qw (b := true) J J J J (by decide))) J ?_;refine zx (q_or J J J J) J (z1 J (Qe (Q0 (Qz (Qc (z0 J (Zb J (z1 J (zz ?_)))))))))
     exact ⟨w - (c + 1),by omega,(fun (c : Nat) (u : Seen × Bool) => (⟨_,[(1,.o (.c (.ptr 0 0))),(3,I w),(4,B u.2),(5,.o (.c (.sb 1 4 1))),(6,I k),(7,I c)],[.box [.rd [] (sl rows)],.box [vb u.1.1,vb u.1.2.1,vb u.1.2.2.1,vb u.1.2.2.2]]⟩ : St)) (c + 1) (((sa,sb,true,sd),true)),⟨c + 1,((sa,sb,true,sd),true),by omega,hcn.trans (by simp [tileM]),J⟩,Y2 [0,1] J (.c J (.c J (.cons (Xc (by simp)) (.c J (.c J (.c J (.nil)))))))⟩
   ·refine zy (z0 rfl (z0 rfl (z5 rfl ?_)))
    refine z0 J (z5 J ?_);refine zx (Qw (b := true) J J J J (by decide)) J ?_;refine z5 J (z0 J (z5 J (z0 J (z5 J ?_))));refine zx (Qw (b := true) J J J J (by decide)) J ?_;refine z5 J (zpT J (z5 J (z0 J (z5 J (z0 J (z5 J (Za J (z5 J (z0 J (z5 J (z0 J ?_)))))))))));refine z5 J (z9c J (by assumption) (z5 J (zpF J (z5 J (zpT J (zpF J (z1 J (zz (Ql J (Qd ?_))))))))));refine Qc (z0 J ?_);refine zx (X3 (b := true) J J J J (by decide)) J ?_;refine z0 J (z5 J (z0 J (z5 J ?_)));refine zx (q_leqK (b := true) J J J J (by decide)) J ?_;refine zpT J (z1 J (zz (Qm J (Qd (zy (z0 J (z0 J (zx (X7 J J J J (by omega)) J (zx (q_sbat J J J J (by omega)) J ?_)))))))));refine z3 J (zz ?_)
    refine Q7 J (fun h8 => ?_) (fun h8 => ?_)
    ·have h8 : sd = true := h8
     subst h8
     refine zy (z1 J (zz (Q6 (T_r (B_r (T_r (B_r (T_r (T_r ?_)))))))));refine B_r (B_r (T_r (T_r (B_r (T_r (F_r ?_))))))
     exact Y5 J (Y6 [] J J (Xc (hbad (hcn.trans (by simp [tileM]))).symm))
    ·have h8 : sd = false := h8
     subst h8
     refine Qh (Qz (Qc (z0 J (z0 J (zx (X7 J J J J (by omega)) J (zx (q_sbat J J J J (by omega)) J ?_))))));refine Q4 J J J J J J J J (Qe (Q0 (Qz (Qc (z0 J (z0 J ?_))))));refine zx (Qt.grdF J J J .stop (fun hgrd => Yo J)) J ?_;refine zx (Z2 J (.hit .stop) (fun hgrd => Qw (b := true) J J J J (by decide))) J ?_;refine zx (q_or J J J J) J (z1 J (Qe (Q0 (Qz (Qc (z0 J (Zb J (z1 J (zz ?_)))))))))
     exact ⟨w - (c + 1),by omega,(fun (c : Nat) (u : Seen × Bool) => (⟨_,[(1,.o (.c (.ptr 0 0))),(3,I w),(4,B u.2),(5,.o (.c (.sb 1 4 1))),(6,I k),(7,I c)],[.box [.rd [] (sl rows)],.box [vb u.1.1,vb u.1.2.1,vb u.1.2.2.1,vb u.1.2.2.2]]⟩ : St)) (c + 1) (((sa,sb,sc,true),true)),⟨c + 1,((sa,sb,sc,true),true),by omega,hcn.trans (by simp [tileM]),J⟩,Y2 [0,1] J (.c J (.c J (.cons (Xc (by simp)) (.c J (.c J (.c J (.nil)))))))⟩
   ·refine zy (z0 rfl (z0 rfl (z5 rfl ?_)))
    refine z0 J (z5 J (z9f J (by assumption) (z5 J (z0 J (z6 J (z6 J (z5 J (zpF J (z5 J (z0 J (z6 J ?_)))))))))));refine z6 J (z6 J (zx (Qt.no2 J J J) J (zx (Qt.no2 J J J) J (z6 J (z5 J (zpF J (zpF J (z1 J (zz (Ql J ?_))))))))));refine zy (z0 J ?_);refine zx (X3 (b := true) J J J J (by decide)) J ?_;refine z0 J (z5 J (z0 J (z5 J (z9b J (by assumption) (zpT J (z1 J (zz (Ql J (Qh (Q0 ?_))))))))));refine Qz (Qc (z0 J (z0 J ?_)));refine zx (Qt.grdF J J J .stop (fun hgrd => Yo J)) J ?_;refine zx (Z2 J (.hit .stop) (fun hgrd => Qw (b := true) J J J J (by decide))) J ?_;refine zx (q_or J J J J) J (z1 J (Qe (Q0 (Qz (Qc (z0 J (Zb J (z1 J (zz ?_)))))))))
    exact ⟨w - (c + 1),by omega,(fun (c : Nat) (u : Seen × Bool) => (⟨_,[(1,.o (.c (.ptr 0 0))),(3,I w),(4,B u.2),(5,.o (.c (.sb 1 4 1))),(6,I k),(7,I c)],[.box [.rd [] (sl rows)],.box [vb u.1.1,vb u.1.2.1,vb u.1.2.2.1,vb u.1.2.2.2]]⟩ : St)) (c + 1) (((sa,sb,sc,sd),true)),⟨c + 1,((sa,sb,sc,sd),true),by omega,hcn.trans (by simp [tileM]),J⟩,Y2 [0,1] J (.c J (.c J (.cons (Xc (by simp)) (.c J (.c J (.c J (.nil)))))))⟩
   ·refine zy (z0 rfl (z0 rfl (z5 rfl ?_)))
    refine z0 J (z5 J ?_);refine zx (Qw (b := true) J J J J (by decide)) J ?_;refine z5 J (z0 J (z5 J (z0 J (z5 J (z9f J (by assumption) (z5 J (zpT J (z5 J (z0 J (z6 J (z6 J ?_)))))))))));refine z6 J (zx (Qt.no2 J J J) J (zx (Qt.no2 J J J) J (z6 J (z5 J (zpF J (zpF J (z1 J (zz (Ql J (Qd ?_))))))))));refine Qc (z0 J (z9d J (by assumption) (z0 J (z6 J (z6 J (zpF J (z1 J (zz (Ql J (Qh ?_))))))))));refine Q0 (Qz (Qc (z0 J (z0 J ?_))));refine zx (Qt.grdF J J J .stop (fun hgrd => Yo J)) J ?_;refine zx (Z2 J (.hit .stop) (fun hgrd => Qw (b := true) J J J J (by decide))) J ?_;refine zx (q_or J J J J) J (z1 J (Qe (Q0 (Qz (Qc (z0 J (Zb J (z1 J (zz ?_)))))))))
    exact ⟨w - (c + 1),by omega,(fun (c : Nat) (u : Seen × Bool) => (⟨_,[(1,.o (.c (.ptr 0 0))),(3,I w),(4,B u.2),(5,.o (.c (.sb 1 4 1))),(6,I k),(7,I c)],[.box [.rd [] (sl rows)],.box [vb u.1.1,vb u.1.2.1,vb u.1.2.2.1,vb u.1.2.2.2]]⟩ : St)) (c + 1) (((sa,sb,sc,sd),true)),⟨c + 1,((sa,sb,sc,sd),true),by omega,hcn.trans (by simp [tileM]),J⟩,Y2 [0,1] J (.c J (.c J (.cons (Xc (by simp)) (.c J (.c J (.c J (.nil)))))))⟩
   ·refine zy (z0 rfl (z0 rfl (z5 rfl ?_)))
    refine z0 J (z5 J (zx (q_neq J J J J) J (z5 J (z0 J ?_))));refine zx (Qt.grdT J J J .stop (fun hgrd => Yo J)) J ?_;refine zx (Qt.grdT J J J (.hit .stop) (fun hgrd => q_neq J J J J)) J ?_;refine z5 J (zx (q_and J J J J) J (z5 J (z0 J ?_)));refine zx (Qt.grdT J J J .stop (fun hgrd => Yo J)) J ?_;refine zx (Qt.grdT J J J (.hit .stop) (fun hgrd => Yi J)) J ?_;refine zx (Qt.grdT J J J (.hit (.hit .stop)) (fun hgrd => Yo J)) J ?_;refine zx (Qt.grd2F J J J (.hit1 (.hit1 (.hit1 .stop))) (fun hgrd hgrd2 => Yo J)) J ?_;refine zx (Qt.grd2F J J J (.hit (.hit1 (.hit1 (.hit1 .stop)))) (fun hgrd hgrd2 => q_gtr J J J J)) J ?_;refine zx (Qt.grdT J J J (.part (.part (.hit (.hit (.hit .stop))))) (fun hgrd => q_or J J J J)) J ?_;refine z5 J (zx (q_and J J J J) J (zpF J (z1 J (zz ?_))))
    refine Q7 J (fun h8 => ?_) (fun h8 => ?_)
    ·refine zy (z1 rfl (zz (Q6 (B_r (T_r (B_r (T_r ?_)))))))
     refine T_r (B_r (B_r (T_r (T_r (B_r (T_r (F_r ?_)))))))
     exact Y5 J (Y6 [] J J (Xc (hbad (hcn.trans (by simp [tileM,ht7]))).symm))
    ·simp only [Bool.and_eq_false_iff,Bool.or_eq_false_iff,Bool.false_or,decide_eq_false_iff_not,Classical.not_not] at h8
     omega
  ·have h5 : c = w := by have := of_decide_eq_false h5; omega
   rw [h5] at hp_D
   rw [hp_D] at hrn
   refine Q5 (T_x (T_x (B_xs (Q0 (Qz (Qc (z0 J (Zb J (z1 J (zz ?_))))))))))
   exact ⟨rows.length - (k + 1),by omega,_,⟨k + 1,u,by omega,⟨hrn,fun _ => h1⟩,J⟩,Zj [0,1]⟩
 ·have h3 : ¬ ((k : Int) < (els rows).length) := of_decide_eq_false h
  have hk : k = rows.length := by omega
  subst hk
  refine Q5 (T_x (T_x (B_xs (Qz (zy (z0 J (z1 J (zz (Q6 ?_)))))))));refine F_r ?_
  exact Y5 J (Y6 [] J J (Xc (by
   unfold levelOk
   rw [hw,hp_A.1]
   have h1 := hp_A.2 (by omega)
   have : 3 ≤ rows.length ∧ rows.length ≤ 12 ∧ 4 ≤ w ∧ w ≤ 20 := by omega
   simp [this])))
end
section
open Go.RowKit

def replayOk (r : TReplay) : Bool := levelOk r.Level && inR r.Players 1 4 && inR r.Seed 0 65535 && inR r.Every 1 100 && decide (r.Rows.length ≤ 400) && (r.Rows.all fun row => rowOk row r.Players) && decide ((r.Keys.length : Int) = (r.Rows.length : Int) / r.Every)
theorem replay_no {r : TReplay} (h : ((!levelOk r.Level || !inR r.Players 1 4) || !inR r.Seed 0 65535) = true ∨ ((!inR r.Every 1 100) || decide (400 < (r.Rows.length : Int))) = true ∨ (r.Rows.all fun row => rowOk row r.Players) = false) : replayOk r = false := by
 unfold replayOk
 rcases h with h | h | h
 ·simp only [Bool.or_eq_true,Bool.not_eq_true'] at h
  rcases h with (h | h) | h <;> simp [h]
 ·simp only [Bool.or_eq_true,Bool.not_eq_true',decide_eq_true_eq] at h
  rcases h with h | h
  ·simp [h]
  ·simp [show ¬ r.Rows.length ≤ 400 by omega]
 ·simp [h]
theorem replay_yes {r : TReplay} (h1 : ((!levelOk r.Level || !inR r.Players 1 4) || !inR r.Seed 0 65535) = false) (h2 : ((!inR r.Every 1 100) || decide (400 < (r.Rows.length : Int))) = false) (h3 : (r.Rows.all fun row => rowOk row r.Players) = true) : replayOk r = decide ((r.Keys.length : Int) = (r.Rows.length : Int) / r.Every) := by
 simp only [Bool.or_eq_false_iff,Bool.not_eq_false',decide_eq_false_iff_not] at h1 h2
 unfold replayOk
 rw [h3]
 simp [h1,h2,show r.Rows.length ≤ 400 by omega]

theorem I_ReplayOk (x : TReplay) (hg : Enc.gd x) : Con Try.prog 22 [] [ag x] [] (B (replayOk x)) := by
 obtain ⟨g_Level,g_Players,g_Seed,g_Every,g_Rows,g_Keys⟩ := hg
 have g1 := g_Rows.1
 have g2 := g_Keys.1
 have hlr := Xp x.Rows
 have hlk := Xp x.Keys
 have cl := I_LevelOk x.Level g_Level
 refine Con.of Try.func22 J Try.ntmps22 J (fun E => ?_)
 refine zy (M1 (Zn J) J J (z1 J (zz (Qd (zy (z2 J J J (z4 J J J ?_)))))));refine zx (Qj J J (cl) J) J ?_;refine zn J (z0 J ?_);refine zx (Qt.grdF J J J .stop (fun hgrd => Yq J J)) J ?_;refine zx (Z2 J (.hit .stop) (fun hgrd => Qg J J J J J)) J ?_;refine zx (Z2 J (.hit (.hit .stop)) (fun hgrd => Qj J J (I_between x.Players 1 4) J)) J ?_;refine zx (Z2 J (.hit (.hit (.hit .stop))) (fun hgrd => Q3 J J J)) J ?_;refine zx (q_or J J J J) J (z0 J ?_);refine zx (Qt.grdF J J J .stop (fun hgrd => Yq J J)) J ?_;refine zx (Z2 J (.hit .stop) (fun hgrd => Qg J J J J J)) J ?_;refine zx (Z2 J (.hit (.hit .stop)) (fun hgrd => Qj J J (I_between x.Seed 0 65535) J)) J ?_;refine zx (Z2 J (.hit (.hit (.hit .stop))) (fun hgrd => Q3 J J J)) J ?_;refine zx (q_or J J J J) J (zz ?_)
 refine Q7 J (fun h1 => ?_) (fun h1 => ?_)
 ·refine zy (z1 rfl (zz (Q6 (T_r (F_r ?_)))))
  exact Y5 J (Y6 [] J J (Xc (replay_no (.inl h1)).symm))
 refine AWP.pre (st' := (⟨_,[(1,.o (.c (.ptr 0 0)))],[.box ((Enc.e x).map (V1.rd []))]⟩ : St)) ?_ (Zj [0])
 refine Qh (Qz (Qd (zy (z2 J J J (z3 J ?_)))));refine zx (Qj J J (I_between x.Every 1 100) J) J ?_;refine zn J (z0 J ?_);refine zx (Qt.grdF J J J .stop (fun hgrd => Yq J J)) J ?_;refine zx (Z2 J (.hit .stop) (fun hgrd => Qg J J J J J)) J ?_;refine zx (Z2 J (.hit (.hit .stop)) (fun hgrd => X4 J J J)) J ?_;refine zx (Z2 J (.hit (.hit (.hit .stop))) (fun hgrd => q_gtr J J J J)) J ?_;refine zx (q_or J J J J) J (zz ?_)
 refine Q7 J (fun h2 => ?_) (fun h2 => ?_)
 ·refine zy (z1 rfl (zz (Q6 (T_r (F_r ?_)))))
  exact Y5 J (Y6 [] J J (Xc (replay_no (.inr (.inl (by rwa [hlr] at h2)))).symm))
 rw [hlr] at h2
 have hE : 1 ≤ x.Every := by
  simp only [Bool.or_eq_false_iff,Bool.not_eq_false',inR_iff] at h2
  exact h2.1.1
 refine Qh (Qz (Qd (zy (z2 J J J (z3 J (zx (X4 J J J) J (z0 J (zz (Qk ?_)))))))));refine A_lq (fun m st => ∃ k : Nat,k + m = x.Rows.length ∧ ((x.Rows.take k).all (fun row => rowOk row x.Players) = true) ∧ st = (⟨_,[(1,.o (.c (.ptr 0 0))),(32,L x.Rows),(33,I (els x.Rows).length),(34,I k)],[.box ((Enc.e x).map (V1.rd []))]⟩ : St)) (x.Rows.length) ⟨_,⟨0,by omega,by simp,J⟩,Zj [0]⟩ ?_
 rintro m_A _ ⟨k,hk_A,hp_A,rfl⟩
 refine zy (zx (Yi J) J (zz (Qd ?_)))
 refine Q7 J (fun h => ?_) (fun h => ?_)
 ·have h3 : k < x.Rows.length := by have := of_decide_eq_true h; omega
  have hat := Xo h3
  have hc := I_rowOk x.Rows[k] x.Players (g_Rows.2 _ (List.getElem_mem h3))
  refine Qh (Qz (Qd (Qk (zy (zx (Q1 J J J J (by omega) (by assumption) J) J (zx (Y9 J) J (z1 J (zz (Qd ?_)))))))));refine Qc (z0 J (z2 J J J (z3 J ?_)));refine zx (Qj J J (hc) J) J ?_;refine zn J (zz ?_)
  refine Q7 J (fun h4 => ?_) (fun h4 => ?_)
  ·refine zy (z1 rfl (zz (Q6 (B_r (T_r (T_r (B_r ?_)))))))
   refine T_r (F_r ?_)
   exact Y5 J (Y6 [] J J (Xc (replay_no (.inr (.inr (all_no h3 (by simpa using h4))))).symm))
  ·refine Qh (Q0 (Qz (Qc (Zb rfl (z0 rfl (Qe ?_))))))
   refine Qz ?_
   exact ⟨x.Rows.length - (k + 1),by omega,_,⟨k + 1,by omega,all_next hp_A h3 (by simpa using h4),J⟩,Zj [0]⟩
 ·have h3 : ¬ ((k : Int) < (els x.Rows).length) := of_decide_eq_false h
  refine Q5 (T_x (T_x (B_xs (Qz (Qd (Xb u8_12 [[],[44],[44,45],[],[47],[47,48],[],[50],[47,48,49,50,51],[44,45,46,47,48,49,50,51,52],[44,45,46,47,48,49,50,51,52,53]] [[47,48,49,50,51,52],[47,48,49,50,51,52],[47,48,49,50,51,52],[44,45,46,50,51],[44,45,46,50,51],[44,45,46,50,51],[44,45,46,47,48,49],[44,45,46,47,48,49],[44,45,46],[],[]] J (Yf (Yq J J) J (Yf (Qg J J J J J) J (Yf (X4 J J J) J (Yf (Yq J J) J (Yf (Qg J J J J J) J ?_)))))))))));refine Yf (X4 J J J) J (Yf (Yq J J) J (Yf (Qg J J J J J) J (Yf (q_quo J J J J (by omega)) J (Yf (q_eql J J J J) J (Yf (Qb J J J) J (Ye (zz (Q6 (F_r ?_)))))))))
  exact Y5 J (Y6 [] J J (Xc (by rw [replay_yes h1 h2 (all_end hp_A (by omega)),hlr,hlk])))
theorem S_ReplayOk (x : TReplay) (hg : Enc.gd x) : Con Try.prog 12 [] [ag x] [] (B (replayOk x)) := by
 obtain ⟨g_Level,g_Players,g_Seed,g_Every,g_Rows,g_Keys⟩ := hg
 have g1 := g_Rows.1
 have g2 := g_Keys.1
 have hlr := Xp x.Rows
 have hlk := Xp x.Keys
 have cl := S_LevelOk x.Level g_Level
 refine Con.of Try.func12 J Try.ntmps12 J (fun E => ?_)
 refine zy (M1 (Zn J) J J (z1 J (zz (Qd (zy (z2 J J J (z4 J J J ?_)))))));refine zx (Qj J J (cl) J) J ?_;refine zn J (z0 J ?_);refine zx (Qt.grdF J J J .stop (fun hgrd => Yq J J)) J ?_;refine zx (Z2 J (.hit .stop) (fun hgrd => Qg J J J J J)) J ?_;refine zx (Z2 J (.hit (.hit .stop)) (fun hgrd => Qj J J (S_in x.Players 1 4) J)) J ?_;refine zx (Z2 J (.hit (.hit (.hit .stop))) (fun hgrd => Q3 J J J)) J ?_;refine zx (q_or J J J J) J (z0 J ?_);refine zx (Qt.grdF J J J .stop (fun hgrd => Yq J J)) J ?_;refine zx (Z2 J (.hit .stop) (fun hgrd => Qg J J J J J)) J ?_;refine zx (Z2 J (.hit (.hit .stop)) (fun hgrd => Qj J J (S_in x.Seed 0 65535) J)) J ?_;refine zx (Z2 J (.hit (.hit (.hit .stop))) (fun hgrd => Q3 J J J)) J ?_;refine zx (q_or J J J J) J (z0 J ?_);refine zx (Qt.grdF J J J .stop (fun hgrd => Yq J J)) J ?_;refine zx (Z2 J (.hit .stop) (fun hgrd => Qg J J J J J)) J ?_;refine zx (Z2 J (.hit (.hit .stop)) (fun hgrd => Qj J J (S_in x.Every 1 100) J)) J ?_;refine zx (Z2 J (.hit (.hit (.hit .stop))) (fun hgrd => Q3 J J J)) J ?_;refine zx (q_or J J J J) J (z0 J ?_);refine zx (Qt.grdF J J J .stop (fun hgrd => Yq J J)) J ?_;refine zx (Z2 J (.hit .stop) (fun hgrd => Qg J J J J J)) J ?_;refine zx (Z2 J (.hit (.hit .stop)) (fun hgrd => X4 J J J)) J ?_;refine zx (Z2 J (.hit (.hit (.hit .stop))) (fun hgrd => q_gtr J J J J)) J ?_;refine zx (q_or J J J J) J (zz ?_)
 refine Q7 J (fun h1 => ?_) (fun h1 => ?_)
 ·rw [hlr,Bool.or_assoc,Bool.or_eq_true] at h1
  refine zy (z1 J (zz (Q6 (T_r (F_r ?_)))))
  exact Y5 J (Y6 [] J J (Xc (replay_no (h1.imp_right .inl)).symm))
 rw [hlr,Bool.or_assoc,Bool.or_eq_false_iff] at h1
 have hE : 1 ≤ x.Every := by
  have h2 := h1.2
  simp only [Bool.or_eq_false_iff,Bool.not_eq_false',inR_iff] at h2
  exact h2.1.1
 refine AWP.pre (st' := (⟨_,[(1,.o (.c (.ptr 0 0)))],[.box ((Enc.e x).map (V1.rd []))]⟩ : St)) ?_ (Zj [0])
 refine Qh (Qz (Qd (zy (z1 J (zz (Qk ?_))))));refine A_lq (fun m st => ∃ k : Nat,k + m = x.Rows.length ∧ ((x.Rows.take k).all (fun row => rowOk row x.Players) = true) ∧ st = (⟨_,[(1,.o (.c (.ptr 0 0))),(3,I k)],[.box ((Enc.e x).map (V1.rd []))]⟩ : St)) (x.Rows.length) ⟨_,⟨0,by omega,by simp,J⟩,Zj [0]⟩ ?_
 rintro m_A _ ⟨k,hk_A,hp_A,rfl⟩
 refine Qd (zy (z0 J (z2 J J J (z3 J (zx (X4 J J J) J (zx (Yi J) J (zz ?_)))))))
 refine Q7 J (fun h => ?_) (fun h => ?_)
 ·have h3 : k < x.Rows.length := by have := of_decide_eq_true h; omega
  have hat := Xo h3
  have hc := S_rowOk x.Rows[k] x.Players (g_Rows.2 _ (List.getElem_mem h3))
  refine Qh (Qz (Qd (Qk (Qd (Xb [[],[0],[],[0,1,2],(u9 4),[],[5],(u9 7),(u9 8)] [[],[39],[],[39,40,41],[39,40,41,42],[],[44],[39,40,41,42,43,44,45],[39,40,41,42,43,44,45,46]] [[41,44,45],[41,44,45],[39,40,44,45],[44,45],[44,45],[39,40,41,42,43],[39,40,41,42,43],[],[]] J (Yf (Yq J J) J (Yf (Qg J J J J J) J (Yf (Yo J) J (Yf (Q1 J J J J (by omega) (by assumption) J) J (Yf (Y9 J) J (Yf (Yq J J) J ?_)))))))))));refine Yf (Qg J J J J J) J ?_;refine Yf (Qj J J (hc) J) J ?_;refine Yf (Q3 J J J) J (Ye (zz ?_))
  refine Q7 J (fun h4 => ?_) (fun h4 => ?_)
  ·refine zy (z1 rfl (zz (Q6 (B_r (T_r (T_r (B_r ?_)))))))
   refine T_r (F_r ?_)
   exact Y5 J (Y6 [] J J (Xc (replay_no (.inr (.inr (all_no h3 (by simpa using h4))))).symm))
  ·refine Qh (Q0 (Qz (Qc (z0 rfl (Zb rfl ?_)))))
   refine z1 J (zz ?_)
   exact ⟨x.Rows.length - (k + 1),by omega,_,⟨k + 1,by omega,all_next hp_A h3 (by simpa using h4),J⟩,Zj [0]⟩
 ·have h3 : ¬ ((k : Int) < (els x.Rows).length) := of_decide_eq_false h
  refine Q5 (T_x (T_x (B_xs (Qz (Qd (Xb u8_12 [[],[48],[48,49],[],[51],[51,52],[],[54],[51,52,53,54,55],[48,49,50,51,52,53,54,55,56],[48,49,50,51,52,53,54,55,56,57]] [[51,52,53,54,55,56],[51,52,53,54,55,56],[51,52,53,54,55,56],[48,49,50,54,55],[48,49,50,54,55],[48,49,50,54,55],[48,49,50,51,52,53],[48,49,50,51,52,53],[48,49,50],[],[]] J (Yf (Yq J J) J (Yf (Qg J J J J J) J (Yf (X4 J J J) J (Yf (Yq J J) J (Yf (Qg J J J J J) J ?_)))))))))));refine Yf (X4 J J J) J (Yf (Yq J J) J (Yf (Qg J J J J J) J (Yf (q_quo J J J J (by omega)) J (Yf (q_eql J J J J) J (Yf (Qb J J J) J (Ye (zz (Q6 (F_r ?_)))))))))
  exact Y5 J (Y6 [] J J (Xc (by rw [replay_yes h1.1 h1.2 (all_end hp_A (by omega)),hlr,hlk])))
end
section
open Go.RowKit

def slashB : ByteArray := ⟨#[47]⟩
def keysB (ks : List ByteArray) : Nat → ByteArray
 | 0 => bs []
 | k + 1 => keysB ks k ++ packText (ks.getD k ⟨#[]⟩)
def encB (r : TReplay) : ByteArray := packText (joinB r.Level.Rows slashB) ++ packInts [r.Players,r.Seed,r.Every,(r.Rows.length : Int)] ++ colsB r.Rows r.Players.toNat ++ keysB r.Keys r.Keys.length
def encodeReplay (r : TReplay) : ByteArray := if replayOk r = true then sealText (encB r) else ⟨#[]⟩
theorem app_nilB (s : ByteArray) : s ++ bs [] = s := ByteArray.append_empty
end
section
open Go.RowKit

theorem S_FormatLv (x : TLevel) (hg : Enc.gd x) (hw : Enc.wt x ≤ 1073741824) (ho : levelOk x = true) : Con Try.prog 14 [] [ag x] [] (S (joinB x.Rows slashB)) := by
 have hl := S_LevelOk x hg
 have h0 : Enc.wt x = x.Rows.length + wts x.Rows := rfl
 have hlx := Xp x.Rows
 have h2 : slashB.size = 1 := rfl
 rw [ho] at hl
 rw [show joinB x.Rows slashB = joinG x.Rows slashB x.Rows.length by rw [joinG_all]]
 refine Con.of Try.func14 J Try.ntmps14 J (fun E => ?_)
 refine zy (M1 (Zn J) J J (z1 J (zz (zy (z1 J (zz (Qd ?_)))))));refine zy (z1 J (zz (Qk ?_)));refine A_lq (fun m st => ∃ k : Nat,k + m = x.Rows.length ∧ (True) ∧ st = (⟨_,[(1,.o (.c (.ptr 0 0))),(3,S (joinG x.Rows slashB k)),(4,I k)],[.box ((Enc.e x).map (V1.rd []))]⟩ : St)) (x.Rows.length) ⟨_,⟨0,by omega,trivial,J⟩,Zj [0]⟩ ?_
 rintro m_A _ ⟨k,hk_A,hp_A,rfl⟩
 by_cases h3 : k < x.Rows.length
 ·have hb : decide ((k : Int) < (els x.Rows).length) = true := decide_eq_true (by omega)
  have hat := Xo h3
  have hsz := joinG_size x.Rows slashB k (by omega)
  have hwk := wts_take x.Rows k h3
  have hwl := wts_take_le x.Rows (k + 1)
  have hws : Enc.wt x.Rows[k] = x.Rows[k].size := rfl
  rw [h2] at hsz
  have hd : x.Rows.getD k ⟨#[]⟩ = x.Rows[k] := by simp [List.getD_eq_getElem?_getD,h3]
  by_cases hk : 0 < k
  ·have hb2 : decide ((0 : Int) < k) = true := decide_eq_true (by omega)
   have hstep : joinG x.Rows slashB k ++ slashB ++ x.Rows[k] = joinG x.Rows slashB (k + 1) := by rw [joinG,if_pos hk,hd]
   refine Qd (zy (z0 J (z2 J J J (z3 J (zx (X4 J J J) J (Za J (z0 J (z5 J (z4 J J J (z5 J ?_))))))))));refine zx (Qj J J (hl) J) J ?_;refine zpT J (zz (Qm J (Qh (Qz (Qd (Qk (Qd (zy (z0 J ?_)))))))));refine z9c J (by assumption) (zz (Qm J (Qc (z0 J ?_))))
   refine M0 (q_cat J J J J (by simp only [Xm,Xn,List.length_cons,List.length_nil,List.length_append]; omega)) J J ?_
   refine z1 J (zz (Qc (z0 J (z2 J J J (z3 J (z0 J (zx (Q1 J J J J (by omega) (by assumption) J) J (zx (Y9 J) J ?_))))))))
   refine M0 (q_cat J J J J (by simp only [Xm,Xn,List.length_cons,List.length_nil,List.length_append]; omega)) J J ?_
   refine z1 J (Qe (Q0 (Qz (Qc (z0 J (Zb J (z1 J (zz ?_))))))))
   exact ⟨x.Rows.length - (k + 1),by omega,(fun k : Nat => (⟨_,[(1,.o (.c (.ptr 0 0))),(3,S (joinG x.Rows slashB k)),(4,I k)],[.box ((Enc.e x).map (V1.rd []))]⟩ : St)) (k + 1),⟨k + 1,by omega,trivial,J⟩,Y2 [0] J (.c J (.cons (S_eq hstep) (.c J (.nil))))⟩
  ·have hb2 : decide ((0 : Int) < k) = false := decide_eq_false (by omega)
   have hstep : joinG x.Rows slashB k ++ x.Rows[k] = joinG x.Rows slashB (k + 1) := by rw [joinG,if_neg hk,hd]
   refine Qd (zy (z0 J (z2 J J J (z3 J (zx (X4 J J J) J (Za J (z0 J (z5 J (z4 J J J (z5 J ?_))))))))));refine zx (Qj J J (hl) J) J ?_;refine zpT J (zz (Qm J (Qh (Qz (Qd (Qk (Qd (zy (z0 J ?_)))))))));refine z9c J (by assumption) (zz (Ql J (Qh (Qz (Qc (z0 J (z2 J J J (z3 J (z0 J (zx (Q1 J J J J (by omega) (by assumption) J) J ?_))))))))));refine zx (Y9 J) J (zx (q_cat J J J J (by omega)) J (z1 J (Qe (Q0 (Qz (Qc (z0 J (Zb J (z1 J (zz ?_))))))))))
   exact ⟨x.Rows.length - (k + 1),by omega,(fun k : Nat => (⟨_,[(1,.o (.c (.ptr 0 0))),(3,S (joinG x.Rows slashB k)),(4,I k)],[.box ((Enc.e x).map (V1.rd []))]⟩ : St)) (k + 1),⟨k + 1,by omega,trivial,J⟩,Y2 [0] J (.c J (.cons (S_eq hstep) (.c J (.nil))))⟩
 ·have hb : decide ((k : Int) < (els x.Rows).length) = false := decide_eq_false (by omega)
  have hk : k = x.Rows.length := by omega
  subst hk
  refine Qd (zy (z0 J (z2 J J J (z3 J (zx (X4 J J J) J (Za J (z0 J (z6 J (z6 J (zpF J ?_))))))))));refine zz (Ql J (Q5 (T_x (T_x (B_xs (Qz (zy (z0 J (z1 J ?_)))))))));refine zz (Q6 (F_r ?_))
  exact Y5 J (Y6 [] J J J)
theorem Xv (ks : List ByteArray) {m : Nat} (h : ∀ x ∈ ks,x.size ≤ m) : ∀ k,k ≤ ks.length → (keysB ks k).size ≤ (m + 6) * k
 | 0,_ => by show (bs []).size ≤ _; rw [Xm]; simp
 | k + 1,hk => by
  have ih := Xv ks h k (by omega)
  have h1 := Xz (ks.getD k ⟨#[]⟩)
  have h2 : ks.getD k ⟨#[]⟩ = ks[k] := by simp [List.getD_eq_getElem?_getD,show k < ks.length by omega]
  have h3 := h _ (List.getElem_mem (show k < ks.length by omega))
  rw [h2] at h1
  rw [keysB,Xn,h2,Nat.mul_succ]
  omega
structure RepE (r : TReplay) : Prop where
 gd : Enc.gd r
 lv : levelOk r.Level = true
 wt : Enc.wt r.Level ≤ 1073741824
 tx : (joinB r.Level.Rows slashB).size ≤ 1048576
 pl : 1 ≤ r.Players ∧ r.Players ≤ 4
 rl : r.Rows.length ≤ 400
 rw_ : ∀ x ∈ r.Rows,(x.length : Int) = r.Players
 kl : r.Keys.length ≤ 400
 ks : ∀ x ∈ r.Keys,x.size ≤ 1048576
theorem S_EncodeReplay (r : TReplay) (h : RepE r) : Con Try.prog 5 [] [ag r] [] (S (encodeReplay r)) := by
 obtain ⟨hg,hlv,hwt,htx,hpl,hrl,hrw,hkl,hks⟩ := h
 have cok := S_ReplayOk r hg
 obtain ⟨gL,gP,gS,gE,gR,gK⟩ := hg
 unfold encodeReplay
 by_cases ho : replayOk r = true
 case neg =>
  rw [if_neg ho]
  have ho : replayOk r = false := by simpa using ho
  rw [ho] at cok
  refine Con.of Try.func5 J Try.ntmps5 J (fun E => ?_)
  refine zy (M1 (Zn J) J J (z1 J (zz (Qd (zy (z4 J J J ?_))))));refine zx (Qj J J (cok) J) J ?_;refine zn J (zz (Qm J (zy (z1 J (zz (Q6 (T_r (F_r ?_))))))))
  exact Y5 J (Y6 [] J J J)
 rw [if_pos ho]
 rw [ho] at cok
 have hlr := Xp r.Rows
 have hlk := Xp r.Keys
 obtain ⟨p,hp⟩ : ∃ p : Nat,(p : Int) = r.Players := ⟨r.Players.toNat,by omega⟩
 have cfl := S_FormatLv r.Level gL hwt hlv
 have cpt := S_PackText (joinB r.Level.Rows slashB) (by omega)
 have hgi : Enc.gd [r.Players,r.Seed,r.Every,((els r.Rows).length : Int)] := ⟨by simp,fun x hx => by
  simp only [List.mem_cons,List.not_mem_nil,or_false] at hx
  rcases hx with rfl | rfl | rfl | rfl
  ·exact gP
  ·exact gS
  ·exact gE
  ·exact ⟨by omega,by omega⟩⟩
 have cpi := S_PackInts [r.Players,r.Seed,r.Every,((els r.Rows).length : Int)] hgi (by simp)
 have hs1 := packInts_size [r.Players,r.Seed,r.Every,((els r.Rows).length : Int)]
 simp only [List.length_cons,List.length_nil] at hs1
 have hs0 := Xz (joinB r.Level.Rows slashB)
 have hsA := Xn (packText (joinB r.Level.Rows slashB)) (packInts [r.Players,r.Seed,r.Every,((els r.Rows).length : Int)])
 have henc : encB r = (packText (joinB r.Level.Rows slashB) ++ packInts [r.Players,r.Seed,r.Every,((els r.Rows).length : Int)]) ++ colsB r.Rows p ++ keysB r.Keys r.Keys.length := by rw [encB,hlr,show r.Players.toNat = p by omega]
 rw [henc]
 obtain ⟨A,hA⟩ : ∃ A,A = packText (joinB r.Level.Rows slashB) ++ packInts [r.Players,r.Seed,r.Every,((els r.Rows).length : Int)] := ⟨_,rfl⟩
 rw [← hA] at hsA ⊢
 refine Con.of Try.func5 J Try.ntmps5 J (fun E => ?_)
 refine zy (M1 (Zn J) J J (z1 J (zz (Qd (zy (z4 J J J ?_))))));refine zx (Qj J J (cok) J) J ?_;refine zn J (zz (Ql J (Qh (Qz (Qd (Xb [[],[0],[0,1],[0,1,2],[],[4],[],[6],[],[8],[],[10],[10,11],[4,5,6,7,8,9,10,11,12],(u9 14),(u9 15),(u9 16)] [[],[9],[9,10],[9,10,11],[],[13],[],[15],[],[17],[],[19],[19,20],[13,14,15,16,17,18,19,20,21],[9,10,11,12,13,14,15,16,17,18,19,20,21,22],[9,10,11,12,13,14,15,16,17,18,19,20,21,22,23],[9,10,11,12,13,14,15,16,17,18,19,20,21,22,23,24]] [[13,14,15,16,17,18,19,20,21,22],[13,14,15,16,17,18,19,20,21,22],[13,14,15,16,17,18,19,20,21,22],[13,14,15,16,17,18,19,20,21,22],[9,10,11,12,15,16,17,18,19,20,21],[9,10,11,12,15,16,17,18,19,20,21],[9,10,11,12,13,14,17,18,19,20,21],[9,10,11,12,13,14,17,18,19,20,21],[9,10,11,12,13,14,15,16,19,20,21],[9,10,11,12,13,14,15,16,19,20,21],[9,10,11,12,13,14,15,16,17,18],[9,10,11,12,13,14,15,16,17,18],[9,10,11,12,13,14,15,16,17,18],[9,10,11,12],[],[],[]] J (Yf (Yq J J) J (Yf (Qu J J J J J J) J ?_))))))));refine Yf (Qj J J (cfl) J) J ?_;refine Yf (Qj J J (cpt) J) J ?_;refine Yf (Yq J J) J (Yf (Qg J J J J J) J (Yf (Yq J J) J (Yf (Qg J J J J J) J (Yf (Yq J J) J (Yf (Qg J J J J J) J (Yf (Yq J J) J (Yf (Qg J J J J J) J (Yf (X4 J J J) J (Yf (X1 J J J J J J) J ?_)))))))));refine Yf (Qj J J (cpi) J) J ?_;refine Yf (q_cat J J J J (by omega)) J (Yf (Qb J J J) J (Ye (zz ?_)))
 refine AWP.pre (st' := (⟨_,[(1,.o (.c (.ptr 0 0))),(3,S (A ++ colsB r.Rows 0))],[.box ((Enc.e r).map (V1.rd []))]⟩ : St)) ?_ (Y2 [0] J (.c J (.cons (S_eq (by rw [show colsB r.Rows 0 = bs [] from J,app_nilB,hA])) (.nil))))
 refine Qd (zy (z1 J (zz (Qk ?_))));refine A_lq (fun m st => ∃ k : Nat,k + m = p ∧ (True) ∧ st = (⟨_,[(1,.o (.c (.ptr 0 0))),(3,S (A ++ colsB r.Rows k)),(4,I k)],[.box ((Enc.e r).map (V1.rd []))]⟩ : St)) (p) ⟨_,⟨0,by omega,trivial,J⟩,Zj [0]⟩ ?_
 rintro m_B _ ⟨k,hk_B,hp_B,rfl⟩
 have hs2 := colsB_size r.Rows k
 have hs5 := Xn A (colsB r.Rows k)
 by_cases hk : k < p
 ·have f0 : decide ((k : Int) < r.Players) = true := decide_eq_true (by omega)
  have hs6 := X0 (colM r.Rows k)
  have hs7 := Xz (packTrack (colM r.Rows k))
  have c1 := S_column r.Rows k gR (by omega) (fun x hx => by have := hrw x hx; omega)
  have c2 := S_PackTrack (colM r.Rows k) (colM_gd gR k)
  have c3 := S_PackText (packTrack (colM r.Rows k)) (by omega)
  refine Qd (zy (z0 J (z2 J J J (z3 J (Za J (zz (Qm J (Qh (Qz ?_)))))))));refine Qd (Qk (Qc (z0 J (z2 J J J (z3 J (z0 J ?_))))));refine M1 (q_call J J (c1) J J J) J J ?_;refine zx (Qj J J (c2) J) J ?_;refine zx (Qj J J (c3) J) J ?_;refine zx (q_cat J J J J (by omega)) J (z1 J (Qe (Q0 (Qz (Qc (z0 J (Zb J (z1 J (zz ?_)))))))))
  exact ⟨p - (k + 1),by omega,(fun k : Nat => (⟨_,[(1,.o (.c (.ptr 0 0))),(3,S (A ++ colsB r.Rows k)),(4,I k)],[.box ((Enc.e r).map (V1.rd []))]⟩ : St)) (k + 1),⟨k + 1,by omega,trivial,J⟩,Y2 [0] J (.c J (.cons (S_eq (by rw [colsB,ByteArray.append_assoc])) (.c J (.nil))))⟩
 have f0 : decide ((k : Int) < r.Players) = false := decide_eq_false (by omega)
 have hkp : k = p := by omega
 subst hkp
 refine Qd (zy (z0 J (z2 J J J (z3 J (Za J (zz (Ql J (Q5 (T_x ?_)))))))));refine T_x (B_xs (Qz (Qd (zy (z1 J (zz (Qk ?_)))))))
 obtain ⟨C,hC⟩ : ∃ C,C = A ++ colsB r.Rows k := ⟨_,rfl⟩
 rw [← hC] at hs5 ⊢
 refine A_lq (fun m st => ∃ q : Nat,q + m = r.Keys.length ∧ (True) ∧ st = (⟨_,[(1,.o (.c (.ptr 0 0))),(3,S (C ++ keysB r.Keys q)),(5,I q)],[.box ((Enc.e r).map (V1.rd []))]⟩ : St)) (r.Keys.length) ⟨(fun q : Nat => (⟨_,[(1,.o (.c (.ptr 0 0))),(3,S (C ++ keysB r.Keys q)),(5,I q)],[.box ((Enc.e r).map (V1.rd []))]⟩ : St)) 0,⟨0,by omega,trivial,J⟩,Y2 [0] J (.c J (.cons (S_eq (by rw [show keysB r.Keys 0 = bs [] from J,app_nilB])) (.c J (.nil))))⟩ ?_
 rintro m_D _ ⟨q,hk_D,hp_D,rfl⟩
 have hs8 := Xn C (keysB r.Keys q)
 by_cases hq : q < r.Keys.length
 ·have f1 : decide ((q : Int) < (els r.Keys).length) = true := decide_eq_true (by omega)
  have hs9 := Xv r.Keys hks q (by omega)
  have hat := Xo hq
  have hkd : r.Keys.getD q ⟨#[]⟩ = r.Keys[q] := by simp [List.getD_eq_getElem?_getD,hq]
  have hk1 := hks _ (List.getElem_mem hq)
  have c4 := S_PackText r.Keys[q] (by omega)
  have hs10 := Xz r.Keys[q]
  have hq400 : (1048576 + 6) * q ≤ 1048582 * 400 := Nat.mul_le_mul_left _ (by omega)
  refine Qd (zy (z0 J (z2 J J J (z3 J (zx (X4 J J J) J (Za J (zz (Qm J (Qh ?_)))))))));refine Qz (Qd (Qk (Qc (z0 J (z2 J J J (z3 J (z0 J (zx (Q1 J J J J (by omega) (by assumption) J) J (zx (Y9 J) J ?_)))))))));refine zx (Qj J J (c4) J) J ?_;refine zx (q_cat J J J J (by omega)) J (z1 J (Qe (Q0 (Qz (Qc (z0 J (Zb J (z1 J (zz ?_)))))))))
  exact ⟨r.Keys.length - (q + 1),by omega,(fun q : Nat => (⟨_,[(1,.o (.c (.ptr 0 0))),(3,S (C ++ keysB r.Keys q)),(5,I q)],[.box ((Enc.e r).map (V1.rd []))]⟩ : St)) (q + 1),⟨q + 1,by omega,trivial,J⟩,Y2 [0] J (.c J (.cons (S_eq (by rw [keysB,hkd,ByteArray.append_assoc])) (.c J (.nil))))⟩
 have f1 : decide ((q : Int) < (els r.Keys).length) = false := decide_eq_false (by omega)
 have hqk : q = r.Keys.length := by omega
 subst hqk
 have hs9 := Xv r.Keys hks r.Keys.length (Nat.le_refl _)
 have hq400 : (1048576 + 6) * r.Keys.length ≤ 1048582 * 400 := Nat.mul_le_mul_left _ (by omega)
 have cse := S_SealText (C ++ keysB r.Keys r.Keys.length) (by omega)
 refine Qd (zy (z0 J (z2 J J J (z3 J (zx (X4 J J J) J (Za J (zz (Ql J (Q5 ?_)))))))));refine T_x (T_x (B_xs (Qz (zy (z0 J ?_)))));refine zx (Qj J J (cse) J) J ?_;refine z1 J (zz (Q6 (F_r ?_)))
 exact Y5 J (Y6 [] J J J)
end
end Go.Proofs.Ytmaiojglkojecaa
