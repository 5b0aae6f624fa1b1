/-
  Parts of the proof (rules, data, and what functions of the program and of the reference return), among them: Walls: SizeOf, solid, SolidAt of the program; SizeOf, l02Solid of the reference; Valid bodies and worlds: BodyOk, WorldOk of the program; l02Body, WorldOk of the reference.
  Conditions: those that each theorem names.
-/
import Derived.Test.YtcjclaoogdblbaaGreatDDTampRowk11
set_option linter.unusedSimpArgs false
set_option linter.unusedVariables false
set_option maxRecDepth 8000
set_option maxHeartbeats 8000000
namespace Go.Proofs.YtcjclaoogdblbaaGreat
section
open Go.RowKit

theorem Xt (x : TLevel) (hg : Enc.gd x) : Con Tryz.prog 34 [] [ag x] [] (B (levelOk x)) := by
 obtain ⟨rows⟩ := x
 have hn : Enc.gd rows := hg
 have hn1 := hn.1
 have hlx := Yx rows
 refine Con.of Tryz.func34 J Tryz.ntmps34 J (fun E => ?_)
 refine zy (Un (Gf J) J (z1 J (zz (Qd (zy (Gg J J (z3 J (zx (Kb J J J) J ?_))))))));refine zx (Vi J) J (z0 J ?_);refine zx (Qt.grdF J J J .stop (fun hgrd => Vq J J)) J ?_;refine zx (Uj J (.hit .stop) (fun hgrd => Vr J)) J ?_;refine zx (Uj J (.hit (.hit .stop)) (fun hgrd => Kb J J J)) J ?_;refine zx (Uj J (.hit (.hit (.hit .stop))) (fun hgrd => Z9 J J J J)) J ?_;refine zx (Uk J) J (zz ?_)
 refine Xb J (fun h => ?_) (fun h => ?_)
 ·simp only [Bool.or_eq_true,decide_eq_true_eq] at h
  refine zy (z1 J (zz (Xa (T_r (F_r ?_)))))
  exact Ud J (Ue [] J J (Xj (by simp [levelOk]; omega)))
 simp only [Bool.or_eq_false_iff,decide_eq_false_iff_not] at h
 have h0 : 0 < rows.length := by omega
 have hat0 : (els rows)[(0 : Int).toNat]? = some (Enc.e rows[0]) := Yv h0
 have hw := width_at h0
 refine Qh (Q0 (zy (Gg J J (z3 J (zx (Q2 J J J J (by omega) (by assumption) J) J (zx (Ug J) J (zx (Kd J J J) J (z1 J (zz ?_)))))))));refine Qd (zy (z0 J (zx (Vi J) J (z0 J ?_))));refine zx (Qt.grdF J J J .stop (fun hgrd => Vo J)) J ?_;refine zx (Uj J (.hit .stop) (fun hgrd => Z9 J J J J)) J ?_;refine zx (Uk J) J (zz ?_)
 refine Xb J (fun h1 => ?_) (fun h1 => ?_)
 ·simp only [Bool.or_eq_true,decide_eq_true_eq] at h1
  refine zy (z1 J (zz (Xa (T_r (F_r ?_)))))
  exact Ud J (Ue [] J J (Xj (by simp [levelOk]; omega)))
 simp only [Bool.or_eq_false_iff,decide_eq_false_iff_not] at h1
 obtain ⟨w,hw'⟩ : ∃ w,w = rows[0].size := ⟨_,rfl⟩
 rw [← hw'] at hw h1
 refine Qh (Q0 (zy (Un (Gh J J) J (zz (zy (z1 J (zz ?_)))))));refine Qd (zy (Gg J J (z3 J (zx (Kb J J J) J (z0 J (zz (Qk ?_)))))));refine Xi (fun m st => ∃ (k : Nat) (s : Seen × Bool),k + m = rows.length ∧ (rowsM rows w k = some s) ∧ st = (⟨_,[(1,.o (.c (.ptr 0 0))),(3,I w),(4,.o (.c (.ptr 1 0))),(5,B s.2),(33,L rows),(34,I (els rows).length),(35,I k)],[.box [.rd [] (sl rows)],.box [vb false,vb s.1.1,vb s.1.2.1,vb s.1.2.2.1,vb s.1.2.2.2]]⟩ : St)) (rows.length) ⟨(fun (k : Nat) (s : Seen × Bool) => (⟨_,[(1,.o (.c (.ptr 0 0))),(3,I w),(4,.o (.c (.ptr 1 0))),(5,B s.2),(33,L rows),(34,I (els rows).length),(35,I k)],[.box [.rd [] (sl rows)],.box [vb false,vb s.1.1,vb s.1.2.1,vb s.1.2.2.1,vb s.1.2.2.2]]⟩ : St)) 0 (((false,false,false,false),false)),⟨0,((false,false,false,false),false),by omega,J,J⟩,V6 [0,1] J (.c J (.cons (Xv (by omega)) (.c J (.c J (.c J (.c J (.c J (.nil))))))))⟩ ?_
 rintro m_A _ ⟨k,s,hk_A,hp_A,rfl⟩
 refine zy (zx (Vi J) J (zz (Qd ?_)))
 refine Xb J (fun h => ?_) (fun h => ?_)
 ·have h3 : k < rows.length := by have := of_decide_eq_true h; omega
  have hat := Yv h3
  have hgk : rows[k].size ≤ 9223372036854775807 := hn.2 _ (List.getElem_mem h3)
  refine Qh (Q0 (Qd (Qk (zy (z0 J (zx (Q2 J J J J (by omega) (by assumption) J) J (zx (Ug J) J (z1 J (z1 J (Qe ?_))))))))));refine Q0 (Qd (zy (z0 J (zx (Kd J J J) J (z0 J (zx (Kj J J J J) J (zz ?_)))))))
  refine Xb J (fun h4 => ?_) (fun h4 => ?_)
  ·have h4 : ¬ rows[k].size = w := by have := of_decide_eq_true h4; omega
   refine zy (z1 J (zz (Xa (T_r (B_r (T_r (T_r (B_r (T_r ?_)))))))));refine F_r ?_
   exact Ud J (Ue [] J J (Xj (level_no (l := ⟨rows⟩) h3 hw (rows_bad h3 h4)).symm))
  have h4 : rows[k].size = w := by have := of_decide_eq_false h4; omega
  have hrn := rows_next hp_A h3 h4
  obtain ⟨er,her⟩ : ∃ er,er = (decide (k = 0) || decide (k + 1 = rows.length)) := ⟨_,rfl⟩
  rw [← her] at hrn
  refine Qh (Q0 (zy (z1 J (zz (Qk ?_)))));refine Xi (fun m st => ∃ (c : Nat) (u : Seen × Bool),c + m = w ∧ (colsM rows[k] er w s c = some u) ∧ st = (⟨_,[(1,.o (.c (.ptr 0 0))),(3,I w),(4,.o (.c (.ptr 1 0))),(5,B u.2),(6,I k),(7,S rows[k]),(8,I c),(33,L rows),(34,I (els rows).length),(35,I k)],[.box [.rd [] (sl rows)],.box [vb false,vb u.1.1,vb u.1.2.1,vb u.1.2.2.1,vb u.1.2.2.2]]⟩ : St)) (w) ⟨_,⟨0,s,by omega,J,J⟩,Uf [0,1]⟩ ?_
  rintro m_D _ ⟨c,u,hk_D,hp_D,rfl⟩
  refine Qd (zy (z0 J (z0 J (zx (Vi J) J (zz ?_)))))
  refine Xb J (fun h5 => ?_) (fun h5 => ?_)
  ·have h5 : c < w := by have := of_decide_eq_true h5; omega
   have hcn := cols_next hp_D
   obtain ⟨t,ht⟩ : ∃ t,byteAt rows[k] (c : Int).toNat = t := ⟨_,rfl⟩
   rw [show byteAt rows[k] c = t from ht] at hcn
   have htb : 0 ≤ t ∧ t ≤ 255 := ht ▸ Yn _ _
   obtain ⟨⟨sa,sb,sc,sd⟩,so⟩ := u
   obtain ⟨e,he⟩ : ∃ e,e = (er || decide (c = 0) || decide (c + 1 = w)) := ⟨_,rfl⟩
   rw [← he] at hcn
   refine Qh (Q0 (Qd (Qk (zy (z0 J (z0 J (zx (U3 J) J (z1 J (zz ?_)))))))));refine zy (z0 J (zx (Z5 J J J J) J (z0 J ?_)));refine zx (Qt.grdF J J J .stop (fun hgrd => Vo J)) J ?_;refine zx (Uj J (.hit .stop) (fun hgrd => Vq J J)) J ?_;refine zx (Uj J (.hit (.hit .stop)) (fun hgrd => Vr J)) J ?_;refine zx (Uj J (.hit (.hit (.hit .stop))) (fun hgrd => Kb J J J)) J ?_;refine zx (Uj J (.hit (.hit (.hit (.hit .stop)))) (fun hgrd => Xc J J J J (by omega))) J ?_;refine zx (Uj J (.hit (.hit (.hit (.hit (.hit .stop))))) (fun hgrd => Z5 J J J J)) J ?_;refine zx (Uk J) J (z0 J ?_);refine zx (Qt.grdF J J J .stop (fun hgrd => Vo J)) J ?_;refine zx (Uj J (.hit .stop) (fun hgrd => Z5 J J J J)) J ?_;refine zx (Uk J) J (z0 J ?_);refine zx (Qt.grdF J J J .stop (fun hgrd => Vo J)) J ?_;refine zx (Uj J (.hit .stop) (fun hgrd => Vo J)) J ?_;refine zx (Uj J (.hit (.hit .stop)) (fun hgrd => Xc J J J J (by omega))) J ?_;refine zx (Uj J (.hit (.hit (.hit .stop))) (fun hgrd => Z5 J J J J)) J ?_;refine zx (Uk J) J (z1 J (zz (Qd (zy (z0 J (z0 J ?_))))));refine zx (Qt.grdT J J J .stop (fun hgrd => Vo J)) J ?_;refine zx (Ub J (.hit .stop) (fun hgrd => Kj J J J J)) J ?_;refine zx (Zt J J J J) J (zz ?_)
   have hee : (decide ((k : Int) = 0) || decide ((k : Int) = ((els rows).length : Int) - 1) || decide ((c : Int) = 0) || decide ((c : Int) = (w : Int) - 1)) = e := by
    rw [he,her,hlx]
    have g1 : decide ((k : Int) = 0) = decide (k = 0) := by simp
    have g2 : decide ((k : Int) = (rows.length : Int) - 1) = decide (k + 1 = rows.length) := decide_eq_decide.2 (by omega)
    have g3 : decide ((c : Int) = 0) = decide (c = 0) := by simp
    have g4 : decide ((c : Int) = (w : Int) - 1) = decide (c + 1 = w) := decide_eq_decide.2 (by omega)
    rw [g1,g2,g3,g4]
   clear he her
   have hbad : colsM rows[k] er w s (c + 1) = none → levelOk ⟨rows⟩ = false := fun hc => level_no (l := ⟨rows⟩) h3 hw (hrn.trans (cols_none hc (by omega)))
   refine Xb J (fun h6 => ?_) (fun h6 => ?_)
   ·rw [hee] at h6
    simp only [Bool.and_eq_true,decide_eq_true_eq] at h6
    refine zy (z1 J (zz (Xa (T_r (B_r (T_r (T_r (B_r (B_r ?_)))))))));refine T_r (T_r (B_r (T_r (F_r ?_))))
    exact Ud J (Ue [] J J (Xj (hbad (hcn.trans (by simp [tileM,h6]))).symm))
   rw [hee] at h6
   have h7 : t = 35 ∨ e = false := by
    simp only [Bool.and_eq_false_iff,decide_eq_false_iff_not,Classical.not_not] at h6
    exact h6.symm
   clear h6 hee
   refine AWP.pre (st' := (⟨_,[(1,.o (.c (.ptr 0 0))),(3,I w),(4,.o (.c (.ptr 1 0))),(5,B so),(6,I k),(7,S rows[k]),(8,I c),(9,VI .u8 t),(33,L rows),(34,I (els rows).length),(35,I k)],[.box [.rd [] (sl rows)],.box [vb false,vb sa,vb sb,vb sc,vb sd]]⟩ : St)) ?_ (Uf [0,1])
   rcases h7 with rfl | h7
   ·refine Qh (Q0 (Qd (Qk (zy (z0 rfl ?_)))))
    refine zx (Z8 (b := false) J J J J (by decide)) J ?_;refine z0 J (z6 J (z6 J (zpF J (z1 J (zz (Ql J (zy (z0 J ?_))))))));refine zx (Qw (b := false) J J J J (by decide)) J ?_;refine z0 J (z6 J (z6 J (zpF J (z0 J (z6 J (z6 J (zpF J (z1 J (zz (Ql J ?_))))))))));refine Qh (Q1 (Q0 (zy (z0 J ?_))));refine zx (Qw (b := false) J J J J (by decide)) J ?_;refine zz (Ql J (Qh (Q1 (Q0 (Qc (z0 J (Uh J (z1 J (zz ?_)))))))))
    exact ⟨w - (c + 1),by omega,_,⟨c + 1,((sa,sb,sc,sd),so),by omega,hcn.trans (by simp [tileM]),J⟩,Uf [0,1]⟩
   subst h7
   rcases (by omega : t = 35 ∨ t = 49 ∨ t = 50 ∨ t = 51 ∨ t = 52 ∨ t = 111 ∨ t = 46 ∨ (t ≠ 35 ∧ t ≠ 49 ∧ t ≠ 50 ∧ t ≠ 51 ∧ t ≠ 52 ∧ t ≠ 111 ∧ t ≠ 46)) with rfl | rfl | rfl | rfl | rfl | rfl | rfl | ht7
   ·refine Qh (Q0 (Qd (Qk (zy (z0 rfl ?_)))))
    refine zx (Z8 (b := false) J J J J (by decide)) J ?_;refine z0 J (z6 J (z6 J (zpF J (z1 J (zz (Ql J (zy (z0 J ?_))))))));refine zx (Qw (b := false) J J J J (by decide)) J ?_;refine z0 J (z6 J (z6 J (zpF J (z0 J (z6 J (z6 J (zpF J (z1 J (zz (Ql J ?_))))))))));refine Qh (Q1 (Q0 (zy (z0 J ?_))));refine zx (Qw (b := false) J J J J (by decide)) J ?_;refine zz (Ql J (Qh (Q1 (Q0 (Qc (z0 J (Uh J (z1 J (zz ?_)))))))))
    exact ⟨w - (c + 1),by omega,_,⟨c + 1,((sa,sb,sc,sd),so),by omega,hcn.trans (by simp [tileM]),J⟩,Uf [0,1]⟩
   ·refine Qh (Q0 (Qd (Qk (zy (z0 rfl ?_)))))
    refine zx (Z8 (b := true) J J J J (by decide)) J ?_;refine z0 J (z5 J (z0 J (z5 J ?_)));refine zx (Ke (b := true) J J J J (by decide)) J ?_;refine zpT J (z1 J (zz (Qm J (Qd (zy (z0 J (zx (Kp J J J J (by omega)) J (zx (q_aidx J J J J (by omega)) J (z3 J ?_)))))))));refine zz ?_
    refine Xb J (fun h8 => ?_) (fun h8 => ?_)
    ·have h8 : sa = true := h8
     subst h8
     refine zy (z1 J (zz (Xa (T_r (B_r (T_r (B_r (T_r (T_r ?_)))))))));refine B_r (B_r (T_r (T_r (B_r (T_r (F_r ?_))))))
     exact Ud J (Ue [] J J (Xj (hbad (hcn.trans (by simp [tileM]))).symm))
    ·have h8 : sa = false := h8
     subst h8
     refine Qh (Q0 (Qc (z0 J (zx (Kp J J J J (by omega)) J (zx (q_aidx J J J J (by omega)) J ?_)))));refine Gl J (Qe (Q1 (Q0 (zy (z0 J ?_)))));refine zx (Qw (b := true) J J J J (by decide)) J ?_;refine zz (Qm J (Qc (z1 J (Qe (Q1 (Q0 (Qc (z0 J (Uh J (z1 J ?_))))))))));refine zz ?_
     exact ⟨w - (c + 1),by omega,_,⟨c + 1,((true,sb,sc,sd),true),by omega,hcn.trans (by simp [tileM]),J⟩,Uf [0,1]⟩
   ·refine Qh (Q0 (Qd (Qk (zy (z0 rfl ?_)))))
    refine zx (Z8 (b := true) J J J J (by decide)) J ?_;refine z0 J (z5 J (z0 J (z5 J ?_)));refine zx (Ke (b := true) J J J J (by decide)) J ?_;refine zpT J (z1 J (zz (Qm J (Qd (zy (z0 J (zx (Kp J J J J (by omega)) J (zx (q_aidx J J J J (by omega)) J (z3 J ?_)))))))));refine zz ?_
    refine Xb J (fun h8 => ?_) (fun h8 => ?_)
    ·have h8 : sb = true := h8
     subst h8
     refine zy (z1 J (zz (Xa (T_r (B_r (T_r (B_r (T_r (T_r ?_)))))))));refine B_r (B_r (T_r (T_r (B_r (T_r (F_r ?_))))))
     exact Ud J (Ue [] J J (Xj (hbad (hcn.trans (by simp [tileM]))).symm))
    ·have h8 : sb = false := h8
     subst h8
     refine Qh (Q0 (Qc (z0 J (zx (Kp J J J J (by omega)) J (zx (q_aidx J J J J (by omega)) J ?_)))));refine Gl J (Qe (Q1 (Q0 (zy (z0 J ?_)))));refine zx (Qw (b := true) J J J J (by decide)) J ?_;refine zz (Qm J (Qc (z1 J (Qe (Q1 (Q0 (Qc (z0 J (Uh J (z1 J ?_))))))))));refine zz ?_
     exact ⟨w - (c + 1),by omega,_,⟨c + 1,((sa,true,sc,sd),true),by omega,hcn.trans (by simp [tileM]),J⟩,Uf [0,1]⟩
   ·refine Qh (Q0 (Qd (Qk (zy (z0 rfl ?_)))))
    refine zx (Z8 (b := true) J J J J (by decide)) J ?_;refine z0 J (z5 J (z0 J (z5 J ?_)));refine zx (Ke (b := true) J J J J (by decide)) J ?_;refine zpT J (z1 J (zz (Qm J (Qd (zy (z0 J (zx (Kp J J J J (by omega)) J (zx (q_aidx J J J J (by omega)) J (z3 J ?_)))))))));refine zz ?_
    refine Xb J (fun h8 => ?_) (fun h8 => ?_)
    ·have h8 : sc = true := h8
     subst h8
     refine zy (z1 J (zz (Xa (T_r (B_r (T_r (B_r (T_r (T_r ?_)))))))));refine B_r (B_r (T_r (T_r (B_r (T_r (F_r ?_))))))
     exact Ud J (Ue [] J J (Xj (hbad (hcn.trans (by simp [tileM]))).symm))
    ·have h8 : sc = false := h8
     subst h8
     refine Qh (Q0 (Qc (z0 J (zx (Kp J J J J (by omega)) J (zx (q_aidx J J J J (by omega)) J ?_)))));refine Gl J (Qe (Q1 (Q0 (zy (z0 J ?_)))));refine zx (Qw (b := true) J J J J (by decide)) J ?_;refine zz (Qm J (Qc (z1 J (Qe (Q1 (Q0 (Qc (z0 J (Uh J (z1 J ?_))))))))));refine zz ?_
     exact ⟨w - (c + 1),by omega,_,⟨c + 1,((sa,sb,true,sd),true),by omega,hcn.trans (by simp [tileM]),J⟩,Uf [0,1]⟩
   ·refine Qh (Q0 (Qd (Qk (zy (z0 rfl ?_)))))
    refine zx (Z8 (b := true) J J J J (by decide)) J ?_;refine z0 J (z5 J (z0 J (z5 J ?_)));refine zx (Ke (b := true) J J J J (by decide)) J ?_;refine zpT J (z1 J (zz (Qm J (Qd (zy (z0 J (zx (Kp J J J J (by omega)) J (zx (q_aidx J J J J (by omega)) J (z3 J ?_)))))))));refine zz ?_
    refine Xb J (fun h8 => ?_) (fun h8 => ?_)
    ·have h8 : sd = true := h8
     subst h8
     refine zy (z1 J (zz (Xa (T_r (B_r (T_r (B_r (T_r (T_r ?_)))))))));refine B_r (B_r (T_r (T_r (B_r (T_r (F_r ?_))))))
     exact Ud J (Ue [] J J (Xj (hbad (hcn.trans (by simp [tileM]))).symm))
    ·have h8 : sd = false := h8
     subst h8
     refine Qh (Q0 (Qc (z0 J (zx (Kp J J J J (by omega)) J (zx (q_aidx J J J J (by omega)) J ?_)))));refine Gl J (Qe (Q1 (Q0 (zy (z0 J ?_)))));refine zx (Qw (b := true) J J J J (by decide)) J ?_;refine zz (Qm J (Qc (z1 J (Qe (Q1 (Q0 (Qc (z0 J (Uh J (z1 J ?_))))))))));refine zz ?_
     exact ⟨w - (c + 1),by omega,_,⟨c + 1,((sa,sb,sc,true),true),by omega,hcn.trans (by simp [tileM]),J⟩,Uf [0,1]⟩
   ·refine Qh (Q0 (Qd (Qk (zy (z0 rfl ?_)))))
    refine zx (Z8 (b := true) J J J J (by decide)) J ?_;refine z0 J (z5 J (z0 J (z5 J ?_)));refine zx (Ke (b := false) J J J J (by decide)) J ?_;refine zpT J (z1 J (zz (Ql J (zy (z0 J ?_)))));refine zx (Qw (b := true) J J J J (by decide)) J ?_;refine z0 J (z5 J (z0 J (z5 J ?_)));refine zx (Qw (b := false) J J J J (by decide)) J ?_;refine zpT J (z0 J (z6 J (z6 J (zpF J (z1 J (zz (Ql J (Qh (Q1 (Q0 ?_))))))))));refine zy (z0 J ?_);refine zx (Qw (b := true) J J J J (by decide)) J ?_;refine zz (Qm J (Qc (z1 J (Qe (Q1 (Q0 (Qc (z0 J (Uh J (z1 J ?_))))))))));refine zz ?_
    exact ⟨w - (c + 1),by omega,_,⟨c + 1,((sa,sb,sc,sd),true),by omega,hcn.trans (by simp [tileM]),J⟩,Uf [0,1]⟩
   ·refine Qh (Q0 (Qd (Qk (zy (z0 rfl ?_)))))
    refine zx (Z8 (b := false) J J J J (by decide)) J ?_;refine z0 J (z6 J (z6 J (zpF J (z1 J (zz (Ql J (zy (z0 J ?_))))))));refine zx (Qw (b := true) J J J J (by decide)) J ?_;refine z0 J (z5 J (z0 J (z5 J ?_)));refine zx (Qw (b := true) J J J J (by decide)) J ?_;refine zpT J (z0 J (z5 J (z0 J (z5 J ?_))));refine zx (Qw (b := false) J J J J (by decide)) J ?_;refine zpT J (z1 J (zz (Ql J (Qh (Q1 (Q0 (zy (z0 J ?_))))))));refine zx (Qw (b := true) J J J J (by decide)) J ?_;refine zz (Qm J (Qc (z1 J (Qe (Q1 (Q0 (Qc (z0 J (Uh J (z1 J ?_))))))))));refine zz ?_
    exact ⟨w - (c + 1),by omega,_,⟨c + 1,((sa,sb,sc,sd),true),by omega,hcn.trans (by simp [tileM]),J⟩,Uf [0,1]⟩
   ·refine Qh (Q0 (Qd (Qk (zy (z0 rfl (zx (q_geq J J J J) rfl ?_))))))
    refine z0 J ?_;refine zx (Qt.grdT J J J .stop (fun hgrd => Vo J)) J ?_;refine zx (Ub J (.hit .stop) (fun hgrd => q_leq J J J J)) J ?_;refine zx (Zt J J J J) J (z1 J (zz ?_))
    refine Xb J (fun h8 => ?_) (fun h8 => ?_)
    ·simp only [Bool.and_eq_true,decide_eq_true_eq] at h8
     omega
    refine zy (z0 J (zx (Kj J J J J) J (z0 J ?_)));refine zx (Qt.grdT J J J .stop (fun hgrd => Vo J)) J ?_;refine zx (Ub J (.hit .stop) (fun hgrd => Kj J J J J)) J ?_;refine zx (Zt J J J J) J (z0 J ?_);refine zx (Qt.grdT J J J .stop (fun hgrd => Vo J)) J ?_;refine zx (Ub J (.hit .stop) (fun hgrd => Kj J J J J)) J ?_;refine zx (Zt J J J J) J (z1 J (zz ?_))
    refine Xb J (fun h9 => ?_) (fun h9 => ?_)
    ·refine zy (z1 rfl (zz (Xa (B_r (T_r (B_r (T_r ?_)))))))
     refine T_r (B_r (B_r (T_r (T_r (B_r (T_r (F_r ?_)))))))
     exact Ud J (Ue [] J J (Xj (hbad (hcn.trans (by simp [tileM,ht7]))).symm))
    ·simp only [Bool.and_eq_false_iff,decide_eq_false_iff_not,Classical.not_not] at h9
     omega
  ·have h5 : c = w := by have := of_decide_eq_false h5; omega
   rw [h5] at hp_D
   rw [hp_D] at hrn
   refine Q9 (T_x (T_x (Xk (Q1 (Q0 (Qc (Uh J (z0 J (zz ?_)))))))))
   exact ⟨rows.length - (k + 1),by omega,_,⟨k + 1,u,by omega,hrn,J⟩,Uf [0,1]⟩
 ·have h3 : ¬ ((k : Int) < (els rows).length) := of_decide_eq_false h
  have hk : k = rows.length := by omega
  subst hk
  refine Q9 (T_x (T_x (Xk (Q0 (zy (z0 J (z1 J (zz (Xa ?_)))))))));refine F_r ?_
  exact Ud J (Ue [] J J (Xj (by
   unfold levelOk
   rw [hw,hp_A]
   have : 3 ≤ rows.length ∧ rows.length ≤ 12 ∧ 4 ≤ w ∧ w ≤ 20 := by omega
   simp [this])))
end
section
open Go.RowKit

theorem S_LevelOk (x : TLevel) (hg : Enc.gd x) : Con Tryz.prog 67 [] [ag x] [] (B (levelOk x)) := by
 obtain ⟨rows⟩ := x
 have hn : Enc.gd rows := hg
 have hn1 := hn.1
 have hlx := Yx rows
 refine Con.of Tryz.func67 J Tryz.ntmps67 J (fun E => ?_)
 refine zy (Un (Gf J) J (z1 J (zz (Qd (zy (Gg J J (z3 J (zx (Kb J J J) J ?_))))))));refine zx (Qj J J (S_in (els rows).length 3 12) J) J ?_;refine zn J (zz ?_)
 refine Xb J (fun h => ?_) (fun h => ?_)
 ·refine zy (z1 rfl (zz (Xa (T_r (F_r ?_)))))
  exact Ud J (Ue [] J J (Xj (by simp [inR] at h; simp [levelOk]; omega)))
 have h : 3 ≤ rows.length ∧ rows.length ≤ 12 := by simp [inR] at h; omega
 have h0 : 0 < rows.length := by omega
 have hat0 : (els rows)[(0 : Int).toNat]? = some (Enc.e rows[0]) := Yv h0
 have hw := width_at h0
 obtain ⟨w,hw'⟩ : ∃ w,w = rows[0].size := ⟨_,rfl⟩
 rw [← hw'] at hw
 have hg0 : rows[0].size ≤ 9223372036854775807 := hn.2 _ (List.getElem_mem h0)
 refine Qh (Q0 (zy (Gg J J (z3 J (zx (Q2 J J J J (by omega) (by assumption) J) J (zx (Ug J) J (zx (Kd J J J) J (z1 J (zz ?_)))))))));refine zy (z1 J (zz (zy (Un (Uo J J) J (z1 J (zz (Qd ?_)))))));refine zy (z1 J (zz (Qk ?_)));refine Xi (fun m st => ∃ (k : Nat) (s : Seen × Bool),k + m = rows.length ∧ (rowsM rows w k = some s ∧ (0 < k → 4 ≤ w ∧ w ≤ 20)) ∧ st = (⟨_,[(1,.o (.c (.ptr 0 0))),(3,I w),(4,B s.2),(5,.o (.c (.sb 1 4 1))),(6,I k)],[.box [.rd [] (sl rows)],.box [vb s.1.1,vb s.1.2.1,vb s.1.2.2.1,vb s.1.2.2.2]]⟩ : St)) (rows.length) ⟨(fun (k : Nat) (s : Seen × Bool) => (⟨_,[(1,.o (.c (.ptr 0 0))),(3,I w),(4,B s.2),(5,.o (.c (.sb 1 4 1))),(6,I k)],[.box [.rd [] (sl rows)],.box [vb s.1.1,vb s.1.2.1,vb s.1.2.2.1,vb s.1.2.2.2]]⟩ : St)) 0 (((false,false,false,false),false)),⟨0,((false,false,false,false),false),by omega,⟨J,by omega⟩,J⟩,V6 [0,1] J (.c J (.cons (Xv (by omega)) (.c J (.c J (.c J (.nil))))))⟩ ?_
 rintro m_A _ ⟨k,s,hk_A,hp_A,rfl⟩
 refine Qd (zy (z0 J (Gg J J (z3 J (zx (Kb J J J) J (zx (Vi J) J (zz ?_)))))))
 refine Xb J (fun h => ?_) (fun h => ?_)
 ·have h3 : k < rows.length := by have := of_decide_eq_true h; omega
  have hat := Yv h3
  have hwc : ((rows[0].size : Nat) : Int) = w := by omega
  have hgk : rows[k].size ≤ 9223372036854775807 := hn.2 _ (List.getElem_mem h3)
  refine Qh (Q0 (Qd (Qk (Qd (zy (Gg J J (z3 J (z0 J (zx (Q2 J J J J (by omega) (by assumption) J) J (zx (Ug J) J ?_))))))))));refine zx (Kd J J J) J (z0 J (zx (Kj J J J J) J (z0 J ?_)));refine zx (Qt.grdF J J J .stop (fun hgrd => Vo J)) J ?_;refine zx (Uj J (.hit .stop) (fun hgrd => Qj J J (S_in w 4 20) J)) J ?_;refine zx (Uj J (.hit (.hit .stop)) (fun hgrd => V3 J)) J ?_;refine zx (Uk J) J (zz ?_)
  refine Xb J (fun h4 => ?_) (fun h4 => ?_)
  ·simp only [Bool.or_eq_true,decide_eq_true_eq,Bool.not_eq_true',inR,Bool.and_eq_false_iff,decide_eq_false_iff_not] at h4
   refine zy (z1 J (zz (Xa (T_r (B_r (T_r (T_r (B_r (T_r ?_)))))))));refine F_r ?_
   refine Ud J (Ue [] J J (Xj ?_))
   by_cases h4' : rows[k].size = w
   ·have : ¬ (4 ≤ w ∧ w ≤ 20) := by omega
    simp only [levelOk,hw]
    rcases Nat.lt_or_ge w 4 with h9 | h9
    ·simp [show ¬ 4 ≤ w by omega]
    ·simp [show ¬ w ≤ 20 by omega]
   ·exact (level_no (l := ⟨rows⟩) h3 hw (rows_bad h3 h4')).symm
  simp only [Bool.or_eq_false_iff,decide_eq_false_iff_not,Bool.not_eq_false',inR,Bool.and_eq_true,decide_eq_true_eq] at h4
  have h1 : 4 ≤ w ∧ w ≤ 20 := by omega
  have h4 : rows[k].size = w := by omega
  have hrn := rows_next hp_A.1 h3 h4
  obtain ⟨er,her⟩ : ∃ er,er = (decide (k = 0) || decide (k + 1 = rows.length)) := ⟨_,rfl⟩
  rw [← her] at hrn
  refine Qh (Q0 (zy (z1 J (zz (Qk ?_)))));refine Xi (fun m st => ∃ (c : Nat) (u : Seen × Bool),c + m = w ∧ (colsM rows[k] er w s c = some u) ∧ st = (⟨_,[(1,.o (.c (.ptr 0 0))),(3,I w),(4,B u.2),(5,.o (.c (.sb 1 4 1))),(6,I k),(7,I c)],[.box [.rd [] (sl rows)],.box [vb u.1.1,vb u.1.2.1,vb u.1.2.2.1,vb u.1.2.2.2]]⟩ : St)) (w) ⟨_,⟨0,s,by omega,J,J⟩,Uf [0,1]⟩ ?_
  rintro m_D _ ⟨c,u,hk_D,hp_D,rfl⟩
  refine Qd (zy (z0 J (z0 J (zx (Vi J) J (zz ?_)))))
  refine Xb J (fun h5 => ?_) (fun h5 => ?_)
  ·have h5 : c < w := by have := of_decide_eq_true h5; omega
   have hcn := cols_next hp_D
   obtain ⟨t,ht⟩ : ∃ t,byteAt rows[k] (c : Int).toNat = t := ⟨_,rfl⟩
   rw [show byteAt rows[k] c = t from ht] at hcn
   have htb : 0 ≤ t ∧ t ≤ 255 := ht ▸ Yn _ _
   obtain ⟨⟨sa,sb,sc,sd⟩,so⟩ := u
   obtain ⟨e,he⟩ : ∃ e,e = (er || decide (c = 0) || decide (c + 1 = w)) := ⟨_,rfl⟩
   rw [← he] at hcn
   refine Qh (Q0 (Qd (Qk (zy (Gg J J (z3 J (z0 J (zx (Q2 J J J J (by omega) (by assumption) J) J (zx (Ug J) J (z0 J ?_))))))))));refine zx (U3 J) J (z1 J (zz (zy (z0 J (zx (Z5 J J J J) J (z0 J ?_))))));refine zx (Qt.grdF J J J .stop (fun hgrd => Vo J)) J ?_;refine zx (Uj J (.hit .stop) (fun hgrd => Z5 J J J J)) J ?_;refine zx (Uk J) J (z0 J ?_);refine zx (Qt.grdF J J J .stop (fun hgrd => Vo J)) J ?_;refine zx (Uj J (.hit .stop) (fun hgrd => Vq J J)) J ?_;refine zx (Uj J (.hit (.hit .stop)) (fun hgrd => Vr J)) J ?_;refine zx (Uj J (.hit (.hit (.hit .stop))) (fun hgrd => Kb J J J)) J ?_;refine zx (Uj J (.hit (.hit (.hit (.hit .stop)))) (fun hgrd => Xc J J J J (by omega))) J ?_;refine zx (Uj J (.hit (.hit (.hit (.hit (.hit .stop))))) (fun hgrd => Z5 J J J J)) J ?_;refine zx (Uk J) J (z0 J ?_);refine zx (Qt.grdF J J J .stop (fun hgrd => Vo J)) J ?_;refine zx (Uj J (.hit .stop) (fun hgrd => Vo J)) J ?_;refine zx (Uj J (.hit (.hit .stop)) (fun hgrd => Xc J J J J (by omega))) J ?_;refine zx (Uj J (.hit (.hit (.hit .stop))) (fun hgrd => Z5 J J J J)) J ?_;refine zx (Uk J) J (z1 J (zz (Qd (Qk (zy (z0 J (zx (Z5 J J J J) J (z1 J (Qe ?_)))))))));refine Q0 ?_
   have hee : (decide ((k : Int) = 0) || decide ((c : Int) = 0) || decide ((k : Int) = ((els rows).length : Int) - 1) || decide ((c : Int) = (w : Int) - 1)) = e := by
    rw [he,her,hlx]
    have g1 : decide ((k : Int) = 0) = decide (k = 0) := by simp
    have g2 : decide ((k : Int) = (rows.length : Int) - 1) = decide (k + 1 = rows.length) := decide_eq_decide.2 (by omega)
    have g3 : decide ((c : Int) = 0) = decide (c = 0) := by simp
    have g4 : decide ((c : Int) = (w : Int) - 1) = decide (c + 1 = w) := decide_eq_decide.2 (by omega)
    rw [g1,g2,g3,g4]
    cases decide (k = 0) <;> cases decide (c = 0) <;> cases decide (k + 1 = rows.length) <;> rfl
   clear he her
   have hbad : colsM rows[k] er w s (c + 1) = none → levelOk ⟨rows⟩ = false := fun hc => level_no (l := ⟨rows⟩) h3 hw (hrn.trans (cols_none hc (by omega)))
   refine AWP.pre (st' := (⟨_,[(1,.o (.c (.ptr 0 0))),(3,I w),(4,B so),(5,.o (.c (.sb 1 4 1))),(6,I k),(7,I c),(8,VI .u8 t),(9,B e),(73,B (decide (t = 35)))],[.box [.rd [] (sl rows)],.box [vb sa,vb sb,vb sc,vb sd]]⟩ : St)) ?_ (V6 [0,1] J (.c J (.c J (.c J (.c J (.c J (.c J (.c J (.cons (Xj hee) (.c J (.nil)))))))))))
   by_cases h7 : t = 35
   ·subst h7
    refine Qm J (Qh (Q1 (Q0 (Qc (z0 J (z0 J ?_))))));refine zx (Qt.grdF J J J .stop (fun hgrd => Vo J)) J ?_;refine zx (Uj J (.hit .stop) (fun hgrd => Qw (b := false) J J J J (by decide))) J ?_;refine zx (Uk J) J (z1 J (Qe (Q1 (Q0 (Qc (z0 J (Uh J (z1 J (zz ?_)))))))))
    exact ⟨w - (c + 1),by omega,(fun (c : Nat) (u : Seen × Bool) => (⟨_,[(1,.o (.c (.ptr 0 0))),(3,I w),(4,B u.2),(5,.o (.c (.sb 1 4 1))),(6,I k),(7,I c)],[.box [.rd [] (sl rows)],.box [vb u.1.1,vb u.1.2.1,vb u.1.2.2.1,vb u.1.2.2.2]]⟩ : St)) (c + 1) (((sa,sb,sc,sd),so)),⟨c + 1,((sa,sb,sc,sd),so),by omega,hcn.trans (by simp [tileM]),J⟩,V6 [0,1] J (.c J (.c J (.cons (Xj (by simp)) (.c J (.c J (.c J (.nil)))))))⟩
   cases e
   case true =>
    have f1 : decide (t = 35) = false := decide_eq_false h7
    refine Xb J (fun h => absurd (of_decide_eq_true h) h7) (fun _ => ?_)
    refine zy (z0 J (z0 J (z6 J (z6 J (z6 J (zx (Qt.no2 J J J) J (zx (Qt.no2 J J J) J (z6 J (z6 J (zx (Qt.no2 J J J) J ?_))))))))));refine zx (Qt.no2 J J J) J (zx (Qt.no2 J J J) J (zx (Qt.no2 J J J) J (zx (Qt.no2 J J J) J (zx (Qt.no2 J J J) J (z6 J (zpT J (z1 J (zz (Qm J (Qd ?_))))))))));refine Qc (z1 J (zz (Xa (B_r (T_r (B_r (T_r (T_r (B_r (B_r ?_))))))))));refine T_r (T_r (B_r (T_r (F_r ?_))))
    exact Ud J (Ue [] J J (Xj (hbad (hcn.trans (by simp [tileM,h7]))).symm))
   refine Xb J (fun h => absurd (of_decide_eq_true h) h7) (fun _ => ?_)
   rcases (by omega : t = 49 ∨ t = 50 ∨ t = 51 ∨ t = 52 ∨ t = 111 ∨ t = 46 ∨ (t ≠ 35 ∧ t ≠ 49 ∧ t ≠ 50 ∧ t ≠ 51 ∧ t ≠ 52 ∧ t ≠ 111 ∧ t ≠ 46)) with rfl | rfl | rfl | rfl | rfl | rfl | ht7
   ·refine zy (z0 rfl (z0 rfl (z5 rfl ?_)))
    refine z0 J (z5 J ?_);refine zx (Qw (b := true) J J J J (by decide)) J ?_;refine z5 J (z0 J (z5 J (z0 J (z5 J ?_))));refine zx (Qw (b := true) J J J J (by decide)) J ?_;refine z5 J (zpT J (z5 J (z0 J (z5 J (z0 J (z5 J (U1 J (z5 J (z0 J (z5 J (z0 J ?_)))))))))));refine z5 J (Gb J (z5 J (zpF J (z5 J (zpT J (zpF J (z1 J (zz (Ql J (Qd ?_))))))))));refine Qc (z0 J ?_);refine zx (Z8 (b := true) J J J J (by decide)) J ?_;refine z0 J (z5 J (z0 J (z5 J ?_)));refine zx (Ke (b := true) J J J J (by decide)) J ?_;refine zpT J (z1 J (zz (Qm J (Qd (zy (z0 J (z0 J (zx (Kp J J J J (by omega)) J (zx (q_sbat J J J J (by omega)) J ?_)))))))));refine z3 J (zz ?_)
    refine Xb J (fun h8 => ?_) (fun h8 => ?_)
    ·have h8 : sa = true := h8
     subst h8
     refine zy (z1 J (zz (Xa (T_r (B_r (T_r (B_r (T_r (T_r ?_)))))))));refine B_r (B_r (T_r (T_r (B_r (T_r (F_r ?_))))))
     exact Ud J (Ue [] J J (Xj (hbad (hcn.trans (by simp [tileM]))).symm))
    ·have h8 : sa = false := h8
     subst h8
     refine Qh (Q0 (Qc (z0 J (z0 J (zx (Kp J J J J (by omega)) J (zx (q_sbat J J J J (by omega)) J ?_))))));refine Gl J (Qe (Q1 (Q0 (Qc (z0 J (z0 J ?_))))));refine zx (Qt.grdF J J J .stop (fun hgrd => Vo J)) J ?_;refine zx (Uj J (.hit .stop) (fun hgrd => Qw (b := true) J J J J (by decide))) J ?_;refine zx (Uk J) J (z1 J (Qe (Q1 (Q0 (Qc (z0 J (Uh J (z1 J (zz ?_)))))))))
     exact ⟨w - (c + 1),by omega,(fun (c : Nat) (u : Seen × Bool) => (⟨_,[(1,.o (.c (.ptr 0 0))),(3,I w),(4,B u.2),(5,.o (.c (.sb 1 4 1))),(6,I k),(7,I c)],[.box [.rd [] (sl rows)],.box [vb u.1.1,vb u.1.2.1,vb u.1.2.2.1,vb u.1.2.2.2]]⟩ : St)) (c + 1) (((true,sb,sc,sd),true)),⟨c + 1,((true,sb,sc,sd),true),by omega,hcn.trans (by simp [tileM]),J⟩,V6 [0,1] J (.c J (.c J (.cons (Xj (by simp)) (.c J (.c J (.c J (.nil)))))))⟩
   ·refine zy (z0 rfl (z0 rfl (z5 rfl ?_)))
    refine z0 J (z5 J ?_);refine zx (Qw (b := true) J J J J (by decide)) J ?_;refine z5 J (z0 J (z5 J (z0 J (z5 J ?_))));refine zx (Qw (b := true) J J J J (by decide)) J ?_;refine z5 J (zpT J (z5 J (z0 J (z5 J (z0 J (z5 J (U1 J (z5 J (z0 J (z5 J (z0 J ?_)))))))))));refine z5 J (Gb J (z5 J (zpF J (z5 J (zpT J (zpF J (z1 J (zz (Ql J (Qd ?_))))))))));refine Qc (z0 J ?_);refine zx (Z8 (b := true) J J J J (by decide)) J ?_;refine z0 J (z5 J (z0 J (z5 J ?_)));refine zx (Ke (b := true) J J J J (by decide)) J ?_;refine zpT J (z1 J (zz (Qm J (Qd (zy (z0 J (z0 J (zx (Kp J J J J (by omega)) J (zx (q_sbat J J J J (by omega)) J ?_)))))))));refine z3 J (zz ?_)
    refine Xb J (fun h8 => ?_) (fun h8 => ?_)
    ·have h8 : sb = true := h8
     subst h8
     refine zy (z1 J (zz (Xa (T_r (B_r (T_r (B_r (T_r (T_r ?_)))))))));refine B_r (B_r (T_r (T_r (B_r (T_r (F_r ?_))))))
     exact Ud J (Ue [] J J (Xj (hbad (hcn.trans (by simp [tileM]))).symm))
    ·have h8 : sb = false := h8
     subst h8
     refine Qh (Q0 (Qc (z0 J (z0 J (zx (Kp J J J J (by omega)) J (zx (q_sbat J J J J (by omega)) J ?_))))));refine Gl J (Qe (Q1 (Q0 (Qc (z0 J (z0 J ?_))))));refine zx (Qt.grdF J J J .stop (fun hgrd => Vo J)) J ?_;refine zx (Uj J (.hit .stop) (fun hgrd => Qw (b := true) J J J J (by decide))) J ?_;refine zx (Uk J) J (z1 J (Qe (Q1 (Q0 (Qc (z0 J (Uh J (z1 J (zz ?_)))))))))
     exact ⟨w - (c + 1),by omega,(fun (c : Nat) (u : Seen × Bool) => (⟨_,[(1,.o (.c (.ptr 0 0))),(3,I w),(4,B u.2),(5,.o (.c (.sb 1 4 1))),(6,I k),(7,I c)],[.box [.rd [] (sl rows)],.box [vb u.1.1,vb u.1.2.1,vb u.1.2.2.1,vb u.1.2.2.2]]⟩ : St)) (c + 1) (((sa,true,sc,sd),true)),⟨c + 1,((sa,true,sc,sd),true),by omega,hcn.trans (by simp [tileM]),J⟩,V6 [0,1] J (.c J (.c J (.cons (Xj (by simp)) (.c J (.c J (.c J (.nil)))))))⟩
   ·refine zy (z0 rfl (z0 rfl (z5 rfl ?_)))
    refine z0 J (z5 J ?_);refine zx (Qw (b := true) J J J J (by decide)) J ?_;refine z5 J (z0 J (z5 J (z0 J (z5 J ?_))));refine zx (Qw (b := true) J J J J (by decide)) J ?_;refine z5 J (zpT J (z5 J (z0 J (z5 J (z0 J (z5 J (U1 J (z5 J (z0 J (z5 J (z0 J ?_)))))))))));refine z5 J (Gb J (z5 J (zpF J (z5 J (zpT J (zpF J (z1 J (zz (Ql J (Qd ?_))))))))));refine Qc (z0 J ?_);refine zx (Z8 (b := true) J J J J (by decide)) J ?_;refine z0 J (z5 J (z0 J (z5 J ?_)));refine zx (Ke (b := true) J J J J (by decide)) J ?_;refine zpT J (z1 J (zz (Qm J (Qd (zy (z0 J (z0 J (zx (Kp J J J J (by omega)) J (zx (q_sbat J J J J (by omega)) J ?_)))))))));refine z3 J (zz ?_)
    refine Xb J (fun h8 => ?_) (fun h8 => ?_)
    ·have h8 : sc = true := h8
     subst h8
     refine zy (z1 J (zz (Xa (T_r (B_r (T_r (B_r (T_r (T_r ?_)))))))));refine B_r (B_r (T_r (T_r (B_r (T_r (F_r ?_))))))
     exact Ud J (Ue [] J J (Xj (hbad (hcn.trans (by simp [tileM]))).symm))
    ·have h8 : sc = false := h8
     subst h8
     refine Qh (Q0 (Qc (z0 J (z0 J (zx (Kp J J J J (by omega)) J (zx (q_sbat J J J J (by omega)) J ?_))))));refine Gl J (Qe (Q1 (Q0 (Qc (z0 J (z0 J ?_))))));refine zx (Qt.grdF J J J .stop (fun hgrd => Vo J)) J ?_;refine zx (Uj J (.hit .stop) (fun hgrd => Qw (b := true) J J J J (by decide))) J ?_;refine zx (Uk J) J (z1 J (Qe (Q1 (Q0 (Qc (z0 J (Uh J (z1 J (zz ?_)))))))))
     exact ⟨w - (c + 1),by omega,(fun (c : Nat) (u : Seen × Bool) => (⟨_,[(1,.o (.c (.ptr 0 0))),(3,I w),(4,B u.2),(5,.o (.c (.sb 1 4 1))),(6,I k),(7,I c)],[.box [.rd [] (sl rows)],.box [vb u.1.1,vb u.1.2.1,vb u.1.2.2.1,vb u.1.2.2.2]]⟩ : St)) (c + 1) (((sa,sb,true,sd),true)),⟨c + 1,((sa,sb,true,sd),true),by omega,hcn.trans (by simp [tileM]),J⟩,V6 [0,1] J (.c J (.c J (.cons (Xj (by simp)) (.c J (.c J (.c J (.nil)))))))⟩
   ·refine zy (z0 rfl (z0 rfl (z5 rfl ?_)))
    refine z0 J (z5 J ?_);refine zx (Qw (b := true) J J J J (by decide)) J ?_;refine z5 J (z0 J (z5 J (z0 J (z5 J ?_))));refine zx (Qw (b := true) J J J J (by decide)) J ?_;refine z5 J (zpT J (z5 J (z0 J (z5 J (z0 J (z5 J (U1 J (z5 J (z0 J (z5 J (z0 J ?_)))))))))));refine z5 J (Gb J (z5 J (zpF J (z5 J (zpT J (zpF J (z1 J (zz (Ql J (Qd ?_))))))))));refine Qc (z0 J ?_);refine zx (Z8 (b := true) J J J J (by decide)) J ?_;refine z0 J (z5 J (z0 J (z5 J ?_)));refine zx (Ke (b := true) J J J J (by decide)) J ?_;refine zpT J (z1 J (zz (Qm J (Qd (zy (z0 J (z0 J (zx (Kp J J J J (by omega)) J (zx (q_sbat J J J J (by omega)) J ?_)))))))));refine z3 J (zz ?_)
    refine Xb J (fun h8 => ?_) (fun h8 => ?_)
    ·have h8 : sd = true := h8
     subst h8
     refine zy (z1 J (zz (Xa (T_r (B_r (T_r (B_r (T_r (T_r ?_)))))))));refine B_r (B_r (T_r (T_r (B_r (T_r (F_r ?_))))))
     exact Ud J (Ue [] J J (Xj (hbad (hcn.trans (by simp [tileM]))).symm))
    ·have h8 : sd = false := h8
     subst h8
     refine Qh (Q0 (Qc (z0 J (z0 J (zx (Kp J J J J (by omega)) J (zx (q_sbat J J J J (by omega)) J ?_))))));refine Gl J (Qe (Q1 (Q0 (Qc (z0 J (z0 J ?_))))));refine zx (Qt.grdF J J J .stop (fun hgrd => Vo J)) J ?_;refine zx (Uj J (.hit .stop) (fun hgrd => Qw (b := true) J J J J (by decide))) J ?_;refine zx (Uk J) J (z1 J (Qe (Q1 (Q0 (Qc (z0 J (Uh J (z1 J (zz ?_)))))))))
     exact ⟨w - (c + 1),by omega,(fun (c : Nat) (u : Seen × Bool) => (⟨_,[(1,.o (.c (.ptr 0 0))),(3,I w),(4,B u.2),(5,.o (.c (.sb 1 4 1))),(6,I k),(7,I c)],[.box [.rd [] (sl rows)],.box [vb u.1.1,vb u.1.2.1,vb u.1.2.2.1,vb u.1.2.2.2]]⟩ : St)) (c + 1) (((sa,sb,sc,true),true)),⟨c + 1,((sa,sb,sc,true),true),by omega,hcn.trans (by simp [tileM]),J⟩,V6 [0,1] J (.c J (.c J (.cons (Xj (by simp)) (.c J (.c J (.c J (.nil)))))))⟩
   ·refine zy (z0 rfl (z0 rfl (z5 rfl ?_)))
    refine z0 J (z5 J (Gn J (z5 J (z0 J (z6 J (z6 J (z5 J (zpF J (z5 J (z0 J (z6 J ?_)))))))))));refine z6 J (z6 J (zx (Qt.no2 J J J) J (zx (Qt.no2 J J J) J (z6 J (z5 J (zpF J (zpF J (z1 J (zz (Ql J ?_))))))))));refine zy (z0 J ?_);refine zx (Z8 (b := true) J J J J (by decide)) J ?_;refine z0 J (z5 J (z0 J (z5 J (z9b J (by assumption) (zpT J (z1 J (zz (Ql J (Qh (Q1 ?_))))))))));refine Q0 (Qc (z0 J (z0 J ?_)));refine zx (Qt.grdF J J J .stop (fun hgrd => Vo J)) J ?_;refine zx (Uj J (.hit .stop) (fun hgrd => Qw (b := true) J J J J (by decide))) J ?_;refine zx (Uk J) J (z1 J (Qe (Q1 (Q0 (Qc (z0 J (Uh J (z1 J (zz ?_)))))))))
    exact ⟨w - (c + 1),by omega,(fun (c : Nat) (u : Seen × Bool) => (⟨_,[(1,.o (.c (.ptr 0 0))),(3,I w),(4,B u.2),(5,.o (.c (.sb 1 4 1))),(6,I k),(7,I c)],[.box [.rd [] (sl rows)],.box [vb u.1.1,vb u.1.2.1,vb u.1.2.2.1,vb u.1.2.2.2]]⟩ : St)) (c + 1) (((sa,sb,sc,sd),true)),⟨c + 1,((sa,sb,sc,sd),true),by omega,hcn.trans (by simp [tileM]),J⟩,V6 [0,1] J (.c J (.c J (.cons (Xj (by simp)) (.c J (.c J (.c J (.nil)))))))⟩
   ·refine zy (z0 rfl (z0 rfl (z5 rfl ?_)))
    refine z0 J (z5 J ?_);refine zx (Qw (b := true) J J J J (by decide)) J ?_;refine z5 J (z0 J (z5 J (z0 J (z5 J (Gn J (z5 J (zpT J (z5 J (z0 J (z6 J (z6 J ?_)))))))))));refine z6 J (zx (Qt.no2 J J J) J (zx (Qt.no2 J J J) J (z6 J (z5 J (zpF J (zpF J (z1 J (zz (Ql J (Qd ?_))))))))));refine Qc (z0 J (z9d J (by assumption) (z0 J (z6 J (z6 J (zpF J (z1 J (zz (Ql J (Qh ?_))))))))));refine Q1 (Q0 (Qc (z0 J (z0 J ?_))));refine zx (Qt.grdF J J J .stop (fun hgrd => Vo J)) J ?_;refine zx (Uj J (.hit .stop) (fun hgrd => Qw (b := true) J J J J (by decide))) J ?_;refine zx (Uk J) J (z1 J (Qe (Q1 (Q0 (Qc (z0 J (Uh J (z1 J (zz ?_)))))))))
    exact ⟨w - (c + 1),by omega,(fun (c : Nat) (u : Seen × Bool) => (⟨_,[(1,.o (.c (.ptr 0 0))),(3,I w),(4,B u.2),(5,.o (.c (.sb 1 4 1))),(6,I k),(7,I c)],[.box [.rd [] (sl rows)],.box [vb u.1.1,vb u.1.2.1,vb u.1.2.2.1,vb u.1.2.2.2]]⟩ : St)) (c + 1) (((sa,sb,sc,sd),true)),⟨c + 1,((sa,sb,sc,sd),true),by omega,hcn.trans (by simp [tileM]),J⟩,V6 [0,1] J (.c J (.c J (.cons (Xj (by simp)) (.c J (.c J (.c J (.nil)))))))⟩
   ·refine zy (z0 rfl (z0 rfl (z5 rfl ?_)))
    refine z0 J (z5 J (zx (Kj J J J J) J (z5 J (z0 J ?_))));refine zx (Qt.grdT J J J .stop (fun hgrd => Vo J)) J ?_;refine zx (Ub J (.hit .stop) (fun hgrd => Kj J J J J)) J ?_;refine z5 J (zx (Zt J J J J) J (z5 J (z0 J ?_)));refine zx (Qt.grdT J J J .stop (fun hgrd => Vo J)) J ?_;refine zx (Ub J (.hit .stop) (fun hgrd => Vi J)) J ?_;refine zx (Ub J (.hit (.hit .stop)) (fun hgrd => Vo J)) J ?_;refine zx (Qt.grd2F J J J (.hit1 (.hit1 (.hit1 .stop))) (fun hgrd hgrd2 => Vo J)) J ?_;refine zx (Qt.grd2F J J J (.hit (.hit1 (.hit1 (.hit1 .stop)))) (fun hgrd hgrd2 => Z9 J J J J)) J ?_;refine zx (Ub J (.part (.part (.hit (.hit (.hit .stop))))) (fun hgrd => Uk J)) J ?_;refine z5 J (zx (Zt J J J J) J (zpF J (z1 J (zz ?_))))
    refine Xb J (fun h8 => ?_) (fun h8 => ?_)
    ·refine zy (z1 rfl (zz (Xa (B_r (T_r (B_r (T_r ?_)))))))
     refine T_r (B_r (B_r (T_r (T_r (B_r (T_r (F_r ?_)))))))
     exact Ud J (Ue [] J J (Xj (hbad (hcn.trans (by simp [tileM,ht7]))).symm))
    ·simp only [Bool.and_eq_false_iff,Bool.or_eq_false_iff,Bool.false_or,decide_eq_false_iff_not,Classical.not_not] at h8
     omega
  ·have h5 : c = w := by have := of_decide_eq_false h5; omega
   rw [h5] at hp_D
   rw [hp_D] at hrn
   refine Q9 (T_x (T_x (Xk (Q1 (Q0 (Qc (z0 J (Uh J (z1 J (zz ?_))))))))))
   exact ⟨rows.length - (k + 1),by omega,_,⟨k + 1,u,by omega,⟨hrn,fun _ => h1⟩,J⟩,Uf [0,1]⟩
 ·have h3 : ¬ ((k : Int) < (els rows).length) := of_decide_eq_false h
  have hk : k = rows.length := by omega
  subst hk
  refine Q9 (T_x (T_x (Xk (Q0 (zy (z0 J (z1 J (zz (Xa ?_)))))))));refine F_r ?_
  exact Ud J (Ue [] J J (Xj (by
   unfold levelOk
   rw [hw,hp_A.1]
   have h1 := hp_A.2 (by omega)
   have : 3 ≤ rows.length ∧ rows.length ≤ 12 ∧ 4 ≤ w ∧ w ≤ 20 := by omega
   simp [this])))
end
section
open Go.RowKit

theorem rowsM_size {rows : List ByteArray} {w : Nat} : ∀ n s,rowsM rows w n = some s → ∀ r,r < n → ∃ row,rows[r]? = some row ∧ row.size = w
 | 0,s,_ => fun r hr => by omega
 | n + 1,s,h => fun r hr => by
  rw [rowsM] at h
  split at h
  ·cases h
  ·rename_i s1 h1
   split at h
   ·cases h
   ·rename_i row hrow
    split at h
    ·rename_i hw
     by_cases e : r = n
     ·subst e; exact ⟨row,hrow,hw⟩
     ·exact rowsM_size n s1 h1 r (by omega)
    ·cases h
theorem Zh {l : TLevel} (h : levelOk l = true) : 3 ≤ l.Rows.length ∧ l.Rows.length ≤ 12 ∧ ∃ w,4 ≤ w ∧ w ≤ 20 ∧ ∀ (r : Nat) (hr : r < l.Rows.length),(l.Rows[r]).size = w := by
 unfold levelOk at h
 simp only [Bool.and_eq_true,decide_eq_true_eq] at h
 obtain ⟨⟨⟨⟨h1,h2⟩,h3⟩,h4⟩,h5⟩ := h
 refine ⟨h1,h2,widthM l.Rows,h3,h4,fun r hr => ?_⟩
 split at h5
 ·rename_i s hs
  obtain ⟨row,h6,h7⟩ := rowsM_size _ s hs r hr
  rw [List.getElem?_eq_getElem hr] at h6
  simp only [Option.some.injEq] at h6
  rw [h6]; exact h7
 ·cases h5
def sizeOf (k : Int) : Int := if k = 0 then 12 else if k = 1 then 4 else if k = 2 then 8 else 0
theorem I_SizeOf (k : Int) : Con Tryz.prog 66 [] [ai k] [] (I (sizeOf k)) := by
 by_cases h0 : k = 0
 ·have hb : decide (k = 0) = true := decide_eq_true h0
  rw [show sizeOf k = 12 by rw [sizeOf,if_pos h0]]
  refine Con.of Tryz.func66 J Tryz.ntmps66 J (fun E => ?_)
  refine zy (z1 J (zz (Qd (zy (z0 J (zz (Qk ?_)))))));refine zy (Gr J (z1 J (zz (Qm J (zy (z1 J (zz ?_)))))));refine Xa (B_r (T_r (F_r ?_)))
  exact Ud J (Ue [] J J J)
 have hb0 : decide (k = 0) = false := decide_eq_false h0
 by_cases h1 : k = 1
 ·have hb : decide (k = 1) = true := decide_eq_true h1
  rw [show sizeOf k = 4 by rw [sizeOf,if_neg h0,if_pos h1]]
  refine Con.of Tryz.func66 J Tryz.ntmps66 J (fun E => ?_)
  refine zy (z1 J (zz (Qd (zy (z0 J (zz (Qk ?_)))))));refine zy (Gr J (z1 J (zz (Ql J (zy (Gr J (z1 J (Qe ?_))))))));refine Q0 (Qm J (zy (z1 J (zz (Xa (B_r (T_r (F_r ?_))))))))
  exact Ud J (Ue [] J J J)
 have hb1 : decide (k = 1) = false := decide_eq_false h1
 by_cases h2 : k = 2
 ·have hb : decide (k = 2) = true := decide_eq_true h2
  rw [show sizeOf k = 8 by rw [sizeOf,if_neg h0,if_neg h1,if_pos h2]]
  refine Con.of Tryz.func66 J Tryz.ntmps66 J (fun E => ?_)
  refine zy (z1 J (zz (Qd (zy (z0 J (zz (Qk ?_)))))));refine zy (Gr J (z1 J (zz (Ql J (zy (Gr J (z1 J (Qe ?_))))))));refine Q0 (Ql J (zy (Gr J (z1 J (zz (Qm J (zy (z1 J ?_))))))));refine zz (Xa (B_r (T_r (F_r ?_))))
  exact Ud J (Ue [] J J J)
 have hb2 : decide (k = 2) = false := decide_eq_false h2
 rw [show sizeOf k = 0 by rw [sizeOf,if_neg h0,if_neg h1,if_neg h2]]
 refine Con.of Tryz.func66 J Tryz.ntmps66 J (fun E => ?_)
 refine zy (z1 J (zz (Qd (zy (z0 J (zz (Qk ?_)))))));refine zy (Gr J (z1 J (zz (Ql J (zy (Gr J (z1 J (Qe ?_))))))));refine Q0 (Ql J (zy (Gr J (z1 J (zz (Ql J (Qh (Q1 (Q0 ?_)))))))));refine zy (z1 J (zz (Xa (F_r ?_))))
 exact Ud J (Ue [] J J J)
theorem S_SizeOf (k : Int) : Con Tryz.prog 120 [] [ai k] [] (I (sizeOf k)) := by
 by_cases h0 : k = 0
 ·have hb : decide (k = 0) = true := decide_eq_true h0
  rw [show sizeOf k = 12 by rw [sizeOf,if_pos h0]]
  refine Con.of Tryz.func120 J Tryz.ntmps120 J (fun E => ?_)
  refine zy (z1 J (zz (Qd (zy (z0 J (zz (Qk ?_)))))));refine zy (Gr J (z1 J (zz (Qm J (zy (z1 J (zz ?_)))))));refine Xa (B_r (T_r (F_r ?_)))
  exact Ud J (Ue [] J J J)
 have hb0 : decide (k = 0) = false := decide_eq_false h0
 by_cases h1 : k = 1
 ·have hb : decide (k = 1) = true := decide_eq_true h1
  rw [show sizeOf k = 4 by rw [sizeOf,if_neg h0,if_pos h1]]
  refine Con.of Tryz.func120 J Tryz.ntmps120 J (fun E => ?_)
  refine zy (z1 J (zz (Qd (zy (z0 J (zz (Qk ?_)))))));refine zy (Gr J (z1 J (zz (Ql J (zy (Gr J (z1 J (Qe ?_))))))));refine Q0 (Qm J (zy (z1 J (zz (Xa (B_r (T_r (F_r ?_))))))))
  exact Ud J (Ue [] J J J)
 have hb1 : decide (k = 1) = false := decide_eq_false h1
 by_cases h2 : k = 2
 ·have hb : decide (k = 2) = true := decide_eq_true h2
  rw [show sizeOf k = 8 by rw [sizeOf,if_neg h0,if_neg h1,if_pos h2]]
  refine Con.of Tryz.func120 J Tryz.ntmps120 J (fun E => ?_)
  refine zy (z1 J (zz (Qd (zy (z0 J (zz (Qk ?_)))))));refine zy (Gr J (z1 J (zz (Ql J (zy (Gr J (z1 J (Qe ?_))))))));refine Q0 (Ql J (zy (Gr J (z1 J (zz (Qm J (zy (z1 J ?_))))))));refine zz (Xa (B_r (T_r (F_r ?_))))
  exact Ud J (Ue [] J J J)
 have hb2 : decide (k = 2) = false := decide_eq_false h2
 rw [show sizeOf k = 0 by rw [sizeOf,if_neg h0,if_neg h1,if_neg h2]]
 refine Con.of Tryz.func120 J Tryz.ntmps120 J (fun E => ?_)
 refine zy (z1 J (zz (Qd (zy (z0 J (zz (Qk ?_)))))));refine zy (Gr J (z1 J (zz (Ql J (zy (Gr J (z1 J (Qe ?_))))))));refine Q0 (Ql J (zy (Gr J (z1 J (zz (Ql J (Qh (Q1 (Q0 ?_)))))))));refine zy (z1 J (zz (Xa (F_r ?_))))
 exact Ud J (Ue [] J J J)
def wallAt (l : TLevel) (r c : Int) : Prop := ∀ (q : Nat) (hq : q < l.Rows.length),r = q → 0 ≤ c → c < (l.Rows[q]).size → byteAt (l.Rows[q]) c.toNat = 35
def hits (l : TLevel) (x y s : Int) : Prop := ∃ r c : Int,y / 16 ≤ r ∧ r ≤ (y + s - 1) / 16 ∧ x / 16 ≤ c ∧ c ≤ (x + s - 1) / 16 ∧ wallAt l r c
noncomputable def solidM (l : TLevel) (x y s : Int) : Bool := @decide (hits l x y s) (Classical.propDecidable _)
theorem Kz {l : TLevel} {x y s : Int} (h : hits l x y s) : solidM l x y s = true := @decide_eq_true _ (Classical.propDecidable _) h
theorem solidM_F {l : TLevel} {x y s : Int} (h : ¬ hits l x y s) : solidM l x y s = false := @decide_eq_false _ (Classical.propDecidable _) h
theorem wall_tile {l : TLevel} {r c : Nat} (hr : r < l.Rows.length) (h : byteAt (l.Rows[r]) c = 35) : wallAt l r c := fun q hq e h0 h1 => by
 have : q = r := by omega
 subst this
 exact h
theorem no_wall {l : TLevel} {r c : Nat} (hr : r < l.Rows.length) (hc : c < (l.Rows[r]).size) (h : byteAt (l.Rows[r]) c ≠ 35) : ¬ wallAt l r c := fun hw => h (hw r hr rfl (by omega) (by omega))
theorem out_hits {l : TLevel} {x y s : Int} {w : Nat} (hw : ∀ (r : Nat) (hr : r < l.Rows.length),(l.Rows[r]).size = w) (h1 : 1 ≤ s) (h : x < 0 ∨ y < 0 ∨ (w : Int) * 16 - s < x ∨ (l.Rows.length : Int) * 16 - s < y) : hits l x y s := by
 by_cases hx : x < 0
 ·exact ⟨y / 16,x / 16,by omega,by omega,by omega,by omega,fun q hq e h0 h1 => by omega⟩
 by_cases hy : y < 0
 ·exact ⟨y / 16,x / 16,by omega,by omega,by omega,by omega,fun q hq e h0 h1 => by omega⟩
 by_cases hx2 : (w : Int) * 16 - s < x
 ·exact ⟨y / 16,(x + s - 1) / 16,by omega,by omega,by omega,by omega,fun q hq e h0 h1 => by have := hw q hq; omega⟩
 ·exact ⟨(y + s - 1) / 16,x / 16,by omega,by omega,by omega,by omega,fun q hq e h0 h1 => by omega⟩
def freeR (l : TLevel) (x s : Int) (a b : Int) : Prop := ∀ r c : Int,a ≤ r → r < b → x / 16 ≤ c → c ≤ (x + s - 1) / 16 → ¬ wallAt l r c
def freeC (l : TLevel) (r : Int) (a b : Int) : Prop := ∀ c : Int,a ≤ c → c < b → ¬ wallAt l r c
theorem free_all {l : TLevel} {x y s b : Int} (h : freeR l x s (y / 16) b) (hb : (y + s - 1) / 16 < b) : ¬ hits l x y s := fun ⟨r,c,h1,h2,h3,h4,h5⟩ => h r c h1 (by omega) h3 h4 h5
theorem free_row {l : TLevel} {x s a b e : Int} (h : freeR l x s a b) (hc : freeC l b (x / 16) e) (he : (x + s - 1) / 16 < e) : freeR l x s a (b + 1) := fun r c h1 h2 h3 h4 => by
 by_cases hr : r < b
 ·exact h r c h1 hr h3 h4
 ·have : r = b := by omega
  subst this
  exact hc c h3 (by omega)
theorem free_col {l : TLevel} {r a b : Int} (h : freeC l r a b) (hn : ¬ wallAt l r b) : freeC l r a (b + 1) := fun c h1 h2 => by
 by_cases hc : c < b
 ·exact h c h1 hc
 ·have : c = b := by omega
  subst this
  exact hn
theorem I_solid (l : TLevel) (x y s : Int) (hl : levelOk l = true) (hx : I64 x) (hy : I64 y) (h1 : 1 ≤ s) (h16 : s ≤ 16) : Con Tryz.prog 83 [] [ag l,ai x,ai y,ai s] [] (B (solidM l x y s)) := by
 obtain ⟨hx1,hx2⟩ := hx
 obtain ⟨hy1,hy2⟩ := hy
 obtain ⟨f3,f12,w,w4,w20,hw⟩ := Zh hl
 have hlx := Yx l.Rows
 have h0 : 0 < l.Rows.length := by omega
 have hat0 : (els l.Rows)[(0 : Int).toNat]? = some (Enc.e l.Rows[0]) := Yv h0
 have hw0 := hw 0 h0
 refine Con.of Tryz.func83 J Tryz.ntmps83 J (fun E => ?_)
 refine zy (Un (Gf J) J (z1 J (zz (zy (Gg J J (z3 J (zx (Q2 J J J J (by omega) (by assumption) J) J (zx (Ug J) J ?_))))))));refine zx (Kd J J J) J (zx (Uw J) J (z1 J (zz (zy (Gg J J (z3 J (zx (Kb J J J) J (zx (Uw J) J (z1 J ?_)))))))));refine zz (Qd (zy (z0 J (zx (Vi J) J (z0 J ?_)))));refine zx (Qt.grdF J J J .stop (fun hgrd => Vo J)) J ?_;refine zx (Uj J (.hit .stop) (fun hgrd => Vi J)) J ?_;refine zx (Uk J) J (z0 J ?_);refine zx (Qt.grdF J J J .stop (fun hgrd => Vo J)) J ?_;refine zx (Uj J (.hit .stop) (fun hgrd => Vo J)) J ?_;refine zx (Uj J (.hit (.hit .stop)) (fun hgrd => Vo J)) J ?_;refine zx (Uj J (.hit (.hit (.hit .stop))) (fun hgrd => Xc J J J J (by omega))) J ?_;refine zx (Uj J (.hit (.hit (.hit (.hit .stop)))) (fun hgrd => Z9 J J J J)) J ?_;refine zx (Uk J) J (z0 J ?_);refine zx (Qt.grdF J J J .stop (fun hgrd => Vo J)) J ?_;refine zx (Uj J (.hit .stop) (fun hgrd => Vo J)) J ?_;refine zx (Uj J (.hit (.hit .stop)) (fun hgrd => Vo J)) J ?_;refine zx (Uj J (.hit (.hit (.hit .stop))) (fun hgrd => Xc J J J J (by omega))) J ?_;refine zx (Uj J (.hit (.hit (.hit (.hit .stop)))) (fun hgrd => Z9 J J J J)) J ?_;refine zx (Uk J) J (zz ?_)
 refine Xb J (fun h => ?_) (fun h => ?_)
 ·simp only [Bool.or_eq_true,decide_eq_true_eq] at h
  rw [Kz (out_hits hw h1 (by omega))]
  refine zy (z1 J (zz (Xa (T_r (F_r ?_)))))
  exact Ud J (Ue [] J J J)
 simp only [Bool.or_eq_false_iff,decide_eq_false_iff_not] at h
 refine Qh (Q0 (Qd (zy (z0 J (zx (q_quo J J J J (by omega)) J (z1 J (zz (Qk ?_))))))));refine Xi (fun m__ st => ∃ (r : Nat),((y + s - 1) / 16 + 1).toNat - r = m__ ∧ (y / 16 ≤ r ∧ (r : Int) ≤ (y + s - 1) / 16 + 1 ∧ freeR l x s (y / 16) r) ∧ st = (⟨_,[(1,I x),(2,I y),(3,I s),(4,.o (.c (.ptr 0 0))),(11,I r)],[.box ((Enc.e l).map (V1.rd []))]⟩ : St)) _ ⟨(fun (r : Nat) => (⟨_,[(1,I x),(2,I y),(3,I s),(4,.o (.c (.ptr 0 0))),(11,I r)],[.box ((Enc.e l).map (V1.rd []))]⟩ : St)) ((y / 16).toNat),⟨(y / 16).toNat,J,⟨by omega,by omega,fun r c h1 h2 => by omega⟩,J⟩,V6 [0] J (.c J (.c J (.c J (.c J (.cons (Xv (by omega)) (.nil))))))⟩ ?_
 rintro m_A _ ⟨r,hk_A,hp_A,rfl⟩
 obtain ⟨hr1,hr2,hfr⟩ := hp_A
 refine Qd (zy (z0 J (z0 J (z0 J (Uh J (Ux J (zx (q_quo J J J J (by omega)) J (zx (q_leq J J J J) J (zz ?_)))))))))
 refine Xb J (fun h5 => ?_) (fun h5 => ?_)
 ·have h5 := of_decide_eq_true h5
  have hrl : r < l.Rows.length := by omega
  have hat := Yv hrl
  have hwr := hw r hrl
  refine Qh (Q0 (Qd (Qk (zy (z0 J (zx (q_quo J J J J (by omega)) J (z1 J (zz (Qk ?_)))))))));refine Xi (fun m__ st => ∃ (c : Nat),((x + s - 1) / 16 + 1).toNat - c = m__ ∧ (x / 16 ≤ c ∧ (c : Int) ≤ (x + s - 1) / 16 + 1 ∧ freeC l r (x / 16) c) ∧ st = (⟨_,[(1,I x),(2,I y),(3,I s),(4,.o (.c (.ptr 0 0))),(11,I r),(12,I c)],[.box ((Enc.e l).map (V1.rd []))]⟩ : St)) _ ⟨(fun (c : Nat) => (⟨_,[(1,I x),(2,I y),(3,I s),(4,.o (.c (.ptr 0 0))),(11,I r),(12,I c)],[.box ((Enc.e l).map (V1.rd []))]⟩ : St)) ((x / 16).toNat),⟨(x / 16).toNat,J,⟨by omega,by omega,fun c h1 h2 => by omega⟩,J⟩,V6 [0] J (.c J (.c J (.c J (.c J (.c J (.cons (Xv (by omega)) (.nil)))))))⟩ ?_
  rintro m_B _ ⟨c,hk_B,hp_B,rfl⟩
  obtain ⟨hc1,hc2,hfc⟩ := hp_B
  refine Qd (zy (z0 J (z0 J (z0 J (Uh J (Ux J (zx (q_quo J J J J (by omega)) J (zx (q_leq J J J J) J (zz ?_)))))))))
  refine Xb J (fun h6 => ?_) (fun h6 => ?_)
  ·have h6 := of_decide_eq_true h6
   refine Qh (Q0 (Qd (Qk (zy (Gg J J (z3 J (z0 J (zx (Q2 J J J J (by omega) (by assumption) J) J (zx (Ug J) J (z0 J ?_))))))))));refine zx (V7 J) J (zx (Z5 J J J J) J (zz ?_))
   refine Xb J (fun h7 => ?_) (fun h7 => ?_)
   ·have h7 := of_decide_eq_true h7
    rw [Kz ⟨(r : Int),(c : Int),hr1,by omega,hc1,by omega,wall_tile hrl h7⟩]
    refine zy (z1 J (zz (Xa (B_r (T_r (T_r (B_r (B_r (T_r ?_)))))))));refine T_r (B_r (T_r (F_r ?_)))
    exact Ud J (Ue [] J J J)
   ·have h7 := of_decide_eq_false h7
    refine Qh (Q1 (Q0 (Qc (z0 J (Uh J (z1 J (zz ?_)))))))
    refine ⟨_,(by omega),_,⟨c + 1,J,⟨by omega,by omega,free_col hfc (no_wall hrl (by omega) h7)⟩,J⟩,Uf [0]⟩
  ·have h6 := of_decide_eq_false h6
   refine Q9 (T_x (T_x (Xk (Q1 (Q0 (Qc (z0 J (Uh J (z1 J (zz ?_))))))))))
   refine ⟨_,(by omega),_,⟨r + 1,J,⟨by omega,by omega,free_row hfr hfc (by omega)⟩,J⟩,Uf [0]⟩
 ·have h5 := of_decide_eq_false h5
  rw [solidM_F (free_all hfr (by omega))]
  refine Q9 (T_x (T_x (Xk (Q0 (zy (z1 J (zz (Xa (F_r ?_)))))))))
  exact Ud J (Ue [] J J J)
theorem S_l02Solid (l : TLevel) (x y s : Int) (hl : levelOk l = true) (hx : I64 x) (hy : I64 y) (h1 : 1 ≤ s) (h16 : s ≤ 16) : Con Tryz.prog 119 [] [ag l,ai x,ai y,ai s] [] (B (solidM l x y s)) := by
 obtain ⟨hx1,hx2⟩ := hx
 obtain ⟨hy1,hy2⟩ := hy
 obtain ⟨f3,f12,w,w4,w20,hw⟩ := Zh hl
 have hlx := Yx l.Rows
 refine Con.of Tryz.func119 J Tryz.ntmps119 J (fun E => ?_)
 refine zy (Un (Gf J) J (z1 J (zz (Qd (zy (z0 J ?_))))));refine zx (Qj J J (S_in x 0 1000) J) J ?_;refine zn J (z0 J ?_);refine zx (Qt.grdF J J J .stop (fun hgrd => Vo J)) J ?_;refine zx (Uj J (.hit .stop) (fun hgrd => Qj J J (S_in y 0 1000) J)) J ?_;refine zx (Uj J (.hit (.hit .stop)) (fun hgrd => V3 J)) J ?_;refine zx (Uk J) J (zz ?_)
 refine Xb J (fun h => ?_) (fun h => ?_)
 ·have h : ¬ (0 ≤ x ∧ x ≤ 1000) ∨ ¬ (0 ≤ y ∧ y ≤ 1000) := by
   rw [← Za,← Za]
   simpa using h
  rw [Kz (out_hits hw h1 (by omega))]
  refine zy (z1 J (zz (Xa (T_r (F_r ?_)))))
  exact Ud J (Ue [] J J J)
 have h : (0 ≤ x ∧ x ≤ 1000) ∧ (0 ≤ y ∧ y ≤ 1000) := by
  rw [← Za,← Za]
  simpa using h
 refine Qh (Q0 (Qd (zy (z0 J (zx (q_quo J J J J (by omega)) J (z1 J (zz (Qk ?_))))))));refine Xi (fun m__ st => ∃ (r : Nat),((y + s - 1) / 16 + 1).toNat - r = m__ ∧ (y / 16 ≤ r ∧ (r : Int) ≤ (y + s - 1) / 16 + 1 ∧ freeR l x s (y / 16) r) ∧ st = (⟨_,[(1,I x),(2,I y),(3,I s),(4,.o (.c (.ptr 0 0))),(9,I r)],[.box ((Enc.e l).map (V1.rd []))]⟩ : St)) _ ⟨(fun (r : Nat) => (⟨_,[(1,I x),(2,I y),(3,I s),(4,.o (.c (.ptr 0 0))),(9,I r)],[.box ((Enc.e l).map (V1.rd []))]⟩ : St)) ((y / 16).toNat),⟨(y / 16).toNat,J,⟨by omega,by omega,fun r c h1 h2 => by omega⟩,J⟩,V6 [0] J (.c J (.c J (.c J (.c J (.cons (Xv (by omega)) (.nil))))))⟩ ?_
 rintro m_A _ ⟨r,hk_A,hp_A,rfl⟩
 obtain ⟨hr1,hr2,hfr⟩ := hp_A
 refine Qd (zy (z0 J (z0 J (z0 J (Uh J (Ux J (zx (q_quo J J J J (by omega)) J (zx (q_leq J J J J) J (zz ?_)))))))))
 refine Xb J (fun h5 => ?_) (fun h5 => ?_)
 ·have h5 := of_decide_eq_true h5
  refine Qh (Q0 (Qd (Qk (zy (z0 J (zx (q_quo J J J J (by omega)) J (z1 J (zz (Qk ?_)))))))));refine Xi (fun m__ st => ∃ (c : Nat),((x + s - 1) / 16 + 1).toNat - c = m__ ∧ (x / 16 ≤ c ∧ (c : Int) ≤ (x + s - 1) / 16 + 1 ∧ freeC l r (x / 16) c) ∧ st = (⟨_,[(1,I x),(2,I y),(3,I s),(4,.o (.c (.ptr 0 0))),(9,I r),(10,I c)],[.box ((Enc.e l).map (V1.rd []))]⟩ : St)) _ ⟨(fun (c : Nat) => (⟨_,[(1,I x),(2,I y),(3,I s),(4,.o (.c (.ptr 0 0))),(9,I r),(10,I c)],[.box ((Enc.e l).map (V1.rd []))]⟩ : St)) ((x / 16).toNat),⟨(x / 16).toNat,J,⟨by omega,by omega,fun c h1 h2 => by omega⟩,J⟩,V6 [0] J (.c J (.c J (.c J (.c J (.c J (.cons (Xv (by omega)) (.nil)))))))⟩ ?_
  rintro m_B _ ⟨c,hk_B,hp_B,rfl⟩
  obtain ⟨hc1,hc2,hfc⟩ := hp_B
  refine Qd (zy (z0 J (z0 J (z0 J (Uh J (Ux J (zx (q_quo J J J J (by omega)) J (zx (q_leq J J J J) J (zz ?_)))))))))
  refine Xb J (fun h6 => ?_) (fun h6 => ?_)
  ·have h6 := of_decide_eq_true h6
   by_cases hrl : r < l.Rows.length
   ·have hat := Yv hrl
    have hb : decide (((els l.Rows).length : Int) ≤ r) = false := decide_eq_false (by omega)
    by_cases hcl : c < (l.Rows[r]).size
    ·have hb2 : decide (((l.Rows[r]).size : Int) ≤ c) = false := decide_eq_false (by omega)
     by_cases h7 : byteAt (l.Rows[r]) c = 35
     ·have hb3 : decide (byteAt (l.Rows[r]) (c : Int).toNat = 35) = true := decide_eq_true h7
      rw [Kz ⟨(r : Int),(c : Int),hr1,by omega,hc1,by omega,wall_tile hrl h7⟩]
      refine Qh (Q0 (Qd (Qk (zy (z0 J (Gg J J (z3 J (zx (Kb J J J) J (z9d J (by assumption) (z0 J ?_))))))))));refine z5 J (z0 J (z5 J (Gg J J (z5 J (z3 J (z5 J (z0 J (z5 J (zx (Q2 J J J J (by omega) (by assumption) J) J (z5 J (zx (Ug J) J ?_)))))))))));refine z5 J (zx (Kd J J J) J (z5 J (z9d J (by assumption) (zpF J (z0 J (z5 J (Gg J J (z5 J (z3 J (z5 J (z0 J ?_)))))))))));refine z5 J (zx (Q2 J J J J (by omega) (by assumption) J) J (z5 J (zx (Ug J) J (z5 J (z0 J (z5 J (zx (U3 J) J (z5 J ?_))))))));refine zx (Qv (b := true) J J J J (by decide)) J ?_;refine zpF J (zz (Qm J (zy (z1 J (zz (Xa (B_r (T_r ?_))))))));refine T_r (B_r (B_r (T_r (T_r (B_r (T_r (F_r ?_)))))))
      exact Ud J (Ue [] J J J)
     ·have hb3 : decide (byteAt (l.Rows[r]) (c : Int).toNat = 35) = false := decide_eq_false h7
      refine Qh (Q0 (Qd (Qk (zy (z0 J (Gg J J (z3 J (zx (Kb J J J) J (z9d J (by assumption) (z0 J ?_))))))))));refine z5 J (z0 J (z5 J (Gg J J (z5 J (z3 J (z5 J (z0 J (z5 J (zx (Q2 J J J J (by omega) (by assumption) J) J (z5 J (zx (Ug J) J ?_)))))))))));refine z5 J (zx (Kd J J J) J (z5 J (z9d J (by assumption) (zpF J (z0 J (z5 J (Gg J J (z5 J (z3 J (z5 J (z0 J ?_)))))))))));refine z5 J (zx (Q2 J J J J (by omega) (by assumption) J) J (z5 J (zx (Ug J) J (z5 J (z0 J (z5 J (zx (V7 J) J (z5 J (Gr J (zpF J (Qe ?_)))))))))));refine Q0 (Ql J (Qh (Q1 (Q0 (Qc (z0 J (Uh J (z1 J (zz ?_)))))))))
      refine ⟨_,(by omega),_,⟨c + 1,J,⟨by omega,by omega,free_col hfc (no_wall hrl hcl h7)⟩,J⟩,Uf [0]⟩
    ·have hb2 : decide (((l.Rows[r]).size : Int) ≤ c) = true := decide_eq_true (by omega)
     rw [Kz ⟨(r : Int),(c : Int),hr1,by omega,hc1,by omega,fun q hq e g0 g1 => by have : q = r := (by omega); subst this; omega⟩]
     refine Qh (Q0 (Qd (Qk (zy (z0 J (Gg J J (z3 J (zx (Kb J J J) J (z9d J (by assumption) (z0 J ?_))))))))));refine z5 J (z0 J (z5 J (Gg J J (z5 J (z3 J (z5 J (z0 J (z5 J (zx (Q2 J J J J (by omega) (by assumption) J) J (z5 J (zx (Ug J) J ?_)))))))))));refine z5 J (zx (Kd J J J) J (z5 J (z9d J (by assumption) (zpF J (z0 J (z6 J (z6 J (z6 J (z6 J (z6 J (z6 J ?_)))))))))));refine z6 J (z6 J (zpT J (zz (Qm J (zy (z1 J (zz (Xa ?_))))))));refine B_r (T_r (T_r (B_r (B_r (T_r (T_r (B_r (T_r (F_r ?_)))))))))
     exact Ud J (Ue [] J J J)
   ·have hb : decide (((els l.Rows).length : Int) ≤ r) = true := decide_eq_true (by omega)
    rw [Kz ⟨(r : Int),(c : Int),hr1,by omega,hc1,by omega,fun q hq e g0 g1 => by omega⟩]
    refine Qh (Q0 (Qd (Qk (zy (z0 J (Gg J J (z3 J (zx (Kb J J J) J (z9d J (by assumption) (z0 J ?_))))))))));refine z6 J (z6 J (z6 J (z6 J (z6 J (z6 J (z6 J (z6 J (zpT J (z0 J (z6 J (z6 J ?_)))))))))));refine z6 J (z6 J (z6 J (z6 J (z6 J (z6 J (zpT J (zz (Qm J (zy ?_)))))))));refine z1 J (zz (Xa (B_r (T_r (T_r (B_r (B_r (T_r (T_r (B_r ?_))))))))));refine T_r (F_r ?_)
    exact Ud J (Ue [] J J J)
  ·have h6 := of_decide_eq_false h6
   refine Q9 (T_x (T_x (Xk (Q1 (Q0 (Qc (z0 J (Uh J (z1 J (zz ?_))))))))))
   refine ⟨_,(by omega),_,⟨r + 1,J,⟨by omega,by omega,free_row hfr hfc (by omega)⟩,J⟩,Uf [0]⟩
 ·have h5 := of_decide_eq_false h5
  rw [solidM_F (free_all hfr (by omega))]
  refine Q9 (T_x (T_x (Xk (Q0 (zy (z1 J (zz (Xa (F_r ?_)))))))))
  exact Ud J (Ue [] J J J)
noncomputable def solidAt (l : TLevel) (x y s : Int) : Bool := (!inR s 1 16 || !levelOk l) || solidM l x y s
theorem I_SolidAt (l : TLevel) (x y s : Int) (hg : Enc.gd l) (hx : I64 x) (hy : I64 y) : Con Tryz.prog 65 [] [ag l,ai x,ai y,ai s] [] (B (solidAt l x y s)) := by
 have hc := Xt l hg
 by_cases hs : ¬ (1 ≤ s ∧ s ≤ 16)
 ·have hf : inR s 1 16 = false := by rw [← Bool.not_eq_true,Za]; exact hs
  rw [show solidAt l x y s = true by rw [solidAt,hf]; rfl]
  refine Con.of Tryz.func65 J Tryz.ntmps65 J (fun E => ?_)
  refine zy (Un (Gf J) J (z1 J (zz (Qd (zy (z0 J (zx (Vi J) J (z0 J ?_))))))));refine zx (Qt.grdF J J J .stop (fun hgrd => Vo J)) J ?_;refine zx (Uj J (.hit .stop) (fun hgrd => Z9 J J J J)) J ?_;refine zx (Uk J) J (z0 J ?_);refine zx (Qt.grdF J J J .stop (fun hgrd => Vs J J)) J ?_;refine zx (Uj J (.hit .stop) (fun hgrd => Qj J J (hc) J)) J ?_;refine zx (Uj J (.hit (.hit .stop)) (fun hgrd => V3 J)) J ?_;refine zx (Uk J) J (zz ?_)
  refine Xb J (fun h => ?_) (fun h => ?_)
  ·refine zy (z1 rfl (zz (Xa (T_r (F_r ?_)))))
   exact Ud J (Ue [] J J J)
  ·simp only [Bool.or_eq_false_iff,decide_eq_false_iff_not] at h
   omega
 have hs := Classical.not_not.1 hs
 have hb1 : decide (s < 1) = false := decide_eq_false (by omega)
 have hb2 : decide (16 < s) = false := decide_eq_false (by omega)
 cases ho : levelOk l with
 | false =>
  rw [ho] at hc
  rw [show solidAt l x y s = true by rw [solidAt,ho]; simp]
  refine Con.of Tryz.func65 J Tryz.ntmps65 J (fun E => ?_)
  refine zy (Un (Gf J) J (z1 J (zz (Qd (zy (z0 J (U1 J (z0 J ?_))))))));refine z5 J (z0 J (z5 J (Gb J (zpF J (z0 J (z5 J (Gw J J (z5 J ?_))))))));refine zx (Qj J J (hc) J) J ?_;refine z5 J (zn J (zpF J (zz (Qm J (zy (z1 J (zz (Xa ?_))))))));refine T_r (F_r ?_)
  exact Ud J (Ue [] J J J)
 | true =>
  rw [ho] at hc
  rw [show solidAt l x y s = solidM l x y s by rw [solidAt,ho,Za.2 hs]; rfl]
  have hd := I_solid l x y s ho hx hy hs.1 hs.2
  refine Con.of Tryz.func65 J Tryz.ntmps65 J (fun E => ?_)
  refine zy (Un (Gf J) J (z1 J (zz (Qd (zy (z0 J (U1 J (z0 J ?_))))))));refine z5 J (z0 J (z5 J (Gb J (zpF J (z0 J (z5 J (Gw J J (z5 J ?_))))))));refine zx (Qj J J (hc) J) J ?_;refine z5 J (zn J (zpF J (zz (Ql J (Qh (Q0 (zy (Gw J J (z0 J ?_)))))))));refine z0 J (z0 J ?_);refine zx (Qj J J (hd) J) J ?_;refine z1 J (zz (Xa (F_r ?_)))
  exact Ud J (Ue [] J J J)
end
section
open Go.RowKit

def tailM (b : TBody) : Bool :=
 if b.Kind = 0 then (decide (b.Aim = 1 ∨ b.Aim = -1) && inR b.Life 0 3) && (if b.Life = 0 then inR b.Timer 1 20 else inR b.Timer 0 12)
 else if b.Kind = 1 then decide (b.Aim = 0 ∧ b.Life = 0) && inR b.Timer 1 25
 else decide (b.Owner = 0 ∧ b.Aim = 0 ∧ b.Life = 0 ∧ b.Timer = 0)
noncomputable def bodyM (l : TLevel) (n : Int) (b : TBody) : Bool :=
 inR b.Kind 0 2 && (inR b.Owner 0 (n - 1) && (!solidM l b.X b.Y (sizeOf b.Kind) && (inR b.VX (-15) 15 && (inR b.VY (-15) 15 && tailM b))))
theorem size_in {k : Int} (h : inR k 0 2 = true) : 1 ≤ sizeOf k ∧ sizeOf k ≤ 16 := by
 have := Za.1 h
 unfold sizeOf
 split
 ·omega
 ·split
  ·omega
  ·split <;> omega
theorem S_l02Body (l : TLevel) (n : Int) (b : TBody) (hg : Enc.gd l) (hl : levelOk l = true) (hb : Enc.gd b) (hn : 0 ≤ n ∧ n ≤ 1099511627776) : Con Tryz.prog 105 [] [ag l,ai n,ag b] [] (B (bodyM l n b)) := by
 obtain ⟨b1,b2,b3,b4,b5,b6,b7,b8,b9⟩ := hb
 have h1 := S_in b.Kind 0 2
 have hsz := S_SizeOf b.Kind
 have h2 := S_in b.Owner 0 (n - 1)
 have h4 := S_in b.VX (-15) 15
 have h5 := S_in b.VY (-15) 15
 cases e1 : inR b.Kind 0 2 with
 | false =>
  rw [e1] at h1
  rw [show bodyM l n b = false by rw [bodyM,e1]; rfl]
  refine Con.of Tryz.func105 J Tryz.ntmps105 J (fun E => ?_)
  refine zy (Un (Gf J) J (Un (Gf J) J (z1 J (zz (Qd (Qd (Xh u8_3 u8_4 u8_5 J (Ve (Vq J J) J (Ve (Vr J) J ?_)))))))));refine Ve (Qj J J (h1) J) J ?_;refine Ve (V3 J) J (Ve (Vo J) J (Ve (Gx J) J (Ve (Gx J) J (Ve (Gx J) J (Ve (Gx J) J (Ve (Gx J) J (Ve (Gx J) J (Ve (Qo J J J J) J (Ve (Vo J) J (Ve (Gx J) J (Ve (Gx J) J ?_)))))))))));refine Ve (Gx J) J (Ve (Gx J) J (Ve (Gx J) J (Ve (Gx J) J (Ve (Gx J) J (Ve (Gx J) J (Ve (Gx J) J (Ve (Qo J J J J) J (Ve (Vo J) J (Ve (Gx J) J (Ve (Gx J) J (Ve (Gx J) J ?_)))))))))));refine Ve (Gx J) J (Ve (Qo J J J J) J (Ve (Vo J) J (Ve (Gx J) J (Ve (Gx J) J (Ve (Gx J) J (Ve (Gx J) J (Ve (Qo J J J J) J (Vd (zz (Qm J ?_))))))))));refine zy (z1 J (zz (Xa (T_r (F_r ?_)))))
  exact Ud J (Ue [] J J J)
 | true =>
  rw [e1] at h1
  cases e2 : inR b.Owner 0 (n - 1) with
  | false =>
   rw [e2] at h2
   rw [show bodyM l n b = false by rw [bodyM,e1,e2]; rfl]
   refine Con.of Tryz.func105 J Tryz.ntmps105 J (fun E => ?_)
   refine zy (Un (Gf J) J (Un (Gf J) J (z1 J (zz (Qd (Qd (Xh u8_3 u8_4 u8_5 J (Ve (Vq J J) J (Ve (Vr J) J ?_)))))))));refine Ve (Qj J J (h1) J) J ?_;refine Ve (V3 J) J (Ve (Vo J) J (Ve (Gy J (Vq J J)) J (Ve (Gy J (Vr J)) J (Ve (Gy J (Vo J)) J (Ve (Gy J (Xc J J J J (by omega))) J ?_)))));refine Ve (Gy J (Qj J J (h2) J)) J ?_;refine Ve (Gy J (V3 J)) J (Ve (V0 J) J (Ve (Vo J) J (Ve (Gx J) J (Ve (Gx J) J (Ve (Gx J) J (Ve (Gx J) J (Ve (Gx J) J (Ve (Gx J) J (Ve (Gx J) J (Ve (Gx J) J (Ve (Gx J) J ?_)))))))))));refine Ve (Qo J J J J) J (Ve (Vo J) J (Ve (Gx J) J (Ve (Gx J) J (Ve (Gx J) J (Ve (Gx J) J (Ve (Qo J J J J) J (Ve (Vo J) J (Ve (Gx J) J (Ve (Gx J) J (Ve (Gx J) J (Ve (Gx J) J ?_)))))))))));refine Ve (Qo J J J J) J (Vd (zz (Qm J (zy (z1 J (zz (Xa (T_r ?_))))))));refine F_r ?_
   exact Ud J (Ue [] J J J)
  | true =>
   rw [e2] at h2
   have hs16 := size_in e1
   have h3 := S_l02Solid l b.X b.Y (sizeOf b.Kind) hl b3 b4 hs16.1 hs16.2
   cases e3 : solidM l b.X b.Y (sizeOf b.Kind) with
   | true =>
    rw [e3] at h3
    rw [show bodyM l n b = false by rw [bodyM,e1,e2,e3]; rfl]
    refine Con.of Tryz.func105 J Tryz.ntmps105 J (fun E => ?_)
    refine zy (Un (Gf J) J (Un (Gf J) J (z1 J (zz (Qd (Qd (Xh u8_3 u8_4 u8_5 J (Ve (Vq J J) J (Ve (Vr J) J ?_)))))))));refine Ve (Qj J J (h1) J) J ?_;refine Ve (V3 J) J (Ve (Vo J) J (Ve (Gy J (Vq J J)) J (Ve (Gy J (Vr J)) J (Ve (Gy J (Vo J)) J (Ve (Gy J (Xc J J J J (by omega))) J ?_)))));refine Ve (Gy J (Qj J J (h2) J)) J ?_;refine Ve (Gy J (V3 J)) J (Ve (V0 J) J (Ve (Vo J) J (Ve (Gy J (Vs J J)) J (Ve (Gy J (Vq J J)) J (Ve (Gy J (Vr J)) J (Ve (Gy J (Vq J J)) J (Ve (Gy J (Vr J)) J (Ve (Gy J (Vq J J)) J (Ve (Gy J (Vr J)) J ?_)))))))));refine Ve (Gy J (Qj J J (hsz) J)) J ?_;refine Ve (Gy J (Qj J J (h3) J)) J ?_;refine Ve (V0 J) J (Ve (Vo J) J (Ve (Gx J) J (Ve (Gx J) J (Ve (Gx J) J (Ve (Gx J) J (Ve (Qo J J J J) J (Ve (Vo J) J (Ve (Gx J) J (Ve (Gx J) J (Ve (Gx J) J (Ve (Gx J) J ?_)))))))))));refine Ve (Qo J J J J) J (Vd (zz (Qm J (zy (z1 J (zz (Xa (T_r ?_))))))));refine F_r ?_
    exact Ud J (Ue [] J J J)
   | false =>
    rw [e3] at h3
    cases e4 : inR b.VX (-15) 15 with
    | false =>
     rw [e4] at h4
     rw [show bodyM l n b = false by rw [bodyM,e1,e2,e3,e4]; rfl]
     refine Con.of Tryz.func105 J Tryz.ntmps105 J (fun E => ?_)
     refine zy (Un (Gf J) J (Un (Gf J) J (z1 J (zz (Qd (Qd (Xh u8_3 u8_4 u8_5 J (Ve (Vq J J) J (Ve (Vr J) J ?_)))))))));refine Ve (Qj J J (h1) J) J ?_;refine Ve (V3 J) J (Ve (Vo J) J (Ve (Gy J (Vq J J)) J (Ve (Gy J (Vr J)) J (Ve (Gy J (Vo J)) J (Ve (Gy J (Xc J J J J (by omega))) J ?_)))));refine Ve (Gy J (Qj J J (h2) J)) J ?_;refine Ve (Gy J (V3 J)) J (Ve (V0 J) J (Ve (Vo J) J (Ve (Gy J (Vs J J)) J (Ve (Gy J (Vq J J)) J (Ve (Gy J (Vr J)) J (Ve (Gy J (Vq J J)) J (Ve (Gy J (Vr J)) J (Ve (Gy J (Vq J J)) J (Ve (Gy J (Vr J)) J ?_)))))))));refine Ve (Gy J (Qj J J (hsz) J)) J ?_;refine Ve (Gy J (Qj J J (h3) J)) J ?_;refine Ve (V0 J) J (Ve (Vo J) J (Ve (Gy J (Vq J J)) J (Ve (Gy J (Vr J)) J ?_)));refine Ve (Gy J (Qj J J (h4) J)) J ?_;refine Ve (Gy J (V3 J)) J (Ve (V0 J) J (Ve (Vo J) J (Ve (Gx J) J (Ve (Gx J) J (Ve (Gx J) J (Ve (Gx J) J (Ve (Qo J J J J) J (Vd (zz (Qm J ?_))))))))));refine zy (z1 J (zz (Xa (T_r (F_r ?_)))))
     exact Ud J (Ue [] J J J)
    | true =>
     rw [e4] at h4
     cases e5 : inR b.VY (-15) 15 with
     | false =>
      rw [e5] at h5
      rw [show bodyM l n b = false by rw [bodyM,e1,e2,e3,e4,e5]; rfl]
      refine Con.of Tryz.func105 J Tryz.ntmps105 J (fun E => ?_)
      refine zy (Un (Gf J) J (Un (Gf J) J (z1 J (zz (Qd (Qd (Xh u8_3 u8_4 u8_5 J (Ve (Vq J J) J (Ve (Vr J) J ?_)))))))));refine Ve (Qj J J (h1) J) J ?_;refine Ve (V3 J) J (Ve (Vo J) J (Ve (Gy J (Vq J J)) J (Ve (Gy J (Vr J)) J (Ve (Gy J (Vo J)) J (Ve (Gy J (Xc J J J J (by omega))) J ?_)))));refine Ve (Gy J (Qj J J (h2) J)) J ?_;refine Ve (Gy J (V3 J)) J (Ve (V0 J) J (Ve (Vo J) J (Ve (Gy J (Vs J J)) J (Ve (Gy J (Vq J J)) J (Ve (Gy J (Vr J)) J (Ve (Gy J (Vq J J)) J (Ve (Gy J (Vr J)) J (Ve (Gy J (Vq J J)) J (Ve (Gy J (Vr J)) J ?_)))))))));refine Ve (Gy J (Qj J J (hsz) J)) J ?_;refine Ve (Gy J (Qj J J (h3) J)) J ?_;refine Ve (V0 J) J (Ve (Vo J) J (Ve (Gy J (Vq J J)) J (Ve (Gy J (Vr J)) J ?_)));refine Ve (Gy J (Qj J J (h4) J)) J ?_;refine Ve (Gy J (V3 J)) J (Ve (V0 J) J (Ve (Vo J) J (Ve (Gy J (Vq J J)) J (Ve (Gy J (Vr J)) J ?_))));refine Ve (Gy J (Qj J J (h5) J)) J ?_;refine Ve (Gy J (V3 J)) J (Ve (V0 J) J (Vd (zz (Qm J (zy (z1 J (zz (Xa ?_))))))));refine T_r (F_r ?_)
      exact Ud J (Ue [] J J J)
     | true =>
      rw [e5] at h5
      rw [show bodyM l n b = tailM b by rw [bodyM,e1,e2,e3,e4,e5]; rfl]
      by_cases k0 : b.Kind = 0
      ·have hk : decide (b.Kind = 0) = true := decide_eq_true k0
       refine Con.of Tryz.func105 J Tryz.ntmps105 J (fun E => ?_)
       refine zy (Un (Gf J) J (Un (Gf J) J (z1 J (zz (Qd (Qd (Xh u8_3 u8_4 u8_5 J (Ve (Vq J J) J (Ve (Vr J) J ?_)))))))));refine Ve (Qj J J (h1) J) J ?_;refine Ve (V3 J) J (Ve (Vo J) J (Ve (Gy J (Vq J J)) J (Ve (Gy J (Vr J)) J (Ve (Gy J (Vo J)) J (Ve (Gy J (Xc J J J J (by omega))) J ?_)))));refine Ve (Gy J (Qj J J (h2) J)) J ?_;refine Ve (Gy J (V3 J)) J (Ve (V0 J) J (Ve (Vo J) J (Ve (Gy J (Vs J J)) J (Ve (Gy J (Vq J J)) J (Ve (Gy J (Vr J)) J (Ve (Gy J (Vq J J)) J (Ve (Gy J (Vr J)) J (Ve (Gy J (Vq J J)) J (Ve (Gy J (Vr J)) J ?_)))))))));refine Ve (Gy J (Qj J J (hsz) J)) J ?_;refine Ve (Gy J (Qj J J (h3) J)) J ?_;refine Ve (V0 J) J (Ve (Vo J) J (Ve (Gy J (Vq J J)) J (Ve (Gy J (Vr J)) J ?_)));refine Ve (Gy J (Qj J J (h4) J)) J ?_;refine Ve (Gy J (V3 J)) J (Ve (V0 J) J (Ve (Vo J) J (Ve (Gy J (Vq J J)) J (Ve (Gy J (Vr J)) J ?_))));refine Ve (Gy J (Qj J J (h5) J)) J ?_;refine Ve (Gy J (V3 J)) J (Ve (V0 J) J (Vd (zz (Ql J (Qh (Q0 (Qd (zy (Gg J J ?_)))))))));refine z3 J (zz (Qk (zy (Gr J (z1 J (zz (Qm J (Qd ?_))))))));refine zy (Gg J J (z3 J (zx (Kj J J J J) J (z0 J ?_))));refine zx (Qt.grdT J J J .stop (fun hgrd => Vq J J)) J ?_;refine zx (Ub J (.hit .stop) (fun hgrd => Vr J)) J ?_;refine zx (Ub J (.hit (.hit .stop)) (fun hgrd => Kj J J J J)) J ?_;refine zx (Zt J J J J) J (z0 J ?_);refine zx (Qt.grdF J J J .stop (fun hgrd => Vq J J)) J ?_;refine zx (Uj J (.hit .stop) (fun hgrd => Vr J)) J ?_;refine zx (Uj J (.hit (.hit .stop)) (fun hgrd => Qj J J (S_in b.Life 0 3) J)) J ?_;refine zx (Uj J (.hit (.hit (.hit .stop))) (fun hgrd => V3 J)) J ?_;refine zx (Uk J) J (zz ?_)
       refine Xb J (fun h => ?_) (fun h => ?_)
       ·rw [show tailM b = false by
         rw [tailM,if_pos k0]
         simp only [Bool.or_eq_true,Bool.and_eq_true,decide_eq_true_eq,Bool.not_eq_true'] at h
         rcases h with h | h
         ·rw [decide_eq_false (by omega)]; rfl
         ·rw [h]; simp]
        refine zy (z1 J (zz (Xa (T_r (B_r (T_r (F_r ?_)))))))
        exact Ud J (Ue [] J J J)
       simp only [Bool.or_eq_false_iff,Bool.and_eq_false_iff,decide_eq_false_iff_not,Bool.not_eq_false'] at h
       have ht : tailM b = if b.Life = 0 then inR b.Timer 1 20 else inR b.Timer 0 12 := by
        rw [tailM,if_pos k0,decide_eq_true (by omega),h.2]; rfl
       by_cases l0 : b.Life = 0
       ·have hk2 : decide (b.Life = 0) = true := decide_eq_true l0
        rw [ht,if_pos l0]
        refine Qh (Q0 (Qd (zy (Gg J J (z3 J (Gr J (zz (Qm J (Qd ?_)))))))));refine Qc (Gg J J (z3 J ?_));refine zx (Qj J J (S_in b.Timer 1 20) J) J ?_;refine z1 J (zz (Xa (T_r (B_r (T_r (F_r ?_))))))
        exact Ud J (Ue [] J J J)
       ·have hk2 : decide (b.Life = 0) = false := decide_eq_false l0
        rw [ht,if_neg l0]
        refine Qh (Q0 (Qd (zy (Gg J J (z3 J (Gr J (zz (Ql J (Qh ?_)))))))));refine Q0 (zy (Gg J J (z3 J ?_)));refine zx (Qj J J (S_in b.Timer 0 12) J) J ?_;refine z1 J (zz (Xa (B_r (T_r (F_r ?_)))))
        exact Ud J (Ue [] J J J)
      have hk : decide (b.Kind = 0) = false := decide_eq_false k0
      by_cases k1 : b.Kind = 1
      ·have hk1 : decide (b.Kind = 1) = true := decide_eq_true k1
       refine Con.of Tryz.func105 J Tryz.ntmps105 J (fun E => ?_)
       refine zy (Un (Gf J) J (Un (Gf J) J (z1 J (zz (Qd (Qd (Xh u8_3 u8_4 u8_5 J (Ve (Vq J J) J (Ve (Vr J) J ?_)))))))));refine Ve (Qj J J (h1) J) J ?_;refine Ve (V3 J) J (Ve (Vo J) J (Ve (Gy J (Vq J J)) J (Ve (Gy J (Vr J)) J (Ve (Gy J (Vo J)) J (Ve (Gy J (Xc J J J J (by omega))) J ?_)))));refine Ve (Gy J (Qj J J (h2) J)) J ?_;refine Ve (Gy J (V3 J)) J (Ve (V0 J) J (Ve (Vo J) J (Ve (Gy J (Vs J J)) J (Ve (Gy J (Vq J J)) J (Ve (Gy J (Vr J)) J (Ve (Gy J (Vq J J)) J (Ve (Gy J (Vr J)) J (Ve (Gy J (Vq J J)) J (Ve (Gy J (Vr J)) J ?_)))))))));refine Ve (Gy J (Qj J J (hsz) J)) J ?_;refine Ve (Gy J (Qj J J (h3) J)) J ?_;refine Ve (V0 J) J (Ve (Vo J) J (Ve (Gy J (Vq J J)) J (Ve (Gy J (Vr J)) J ?_)));refine Ve (Gy J (Qj J J (h4) J)) J ?_;refine Ve (Gy J (V3 J)) J (Ve (V0 J) J (Ve (Vo J) J (Ve (Gy J (Vq J J)) J (Ve (Gy J (Vr J)) J ?_))));refine Ve (Gy J (Qj J J (h5) J)) J ?_;refine Ve (Gy J (V3 J)) J (Ve (V0 J) J (Vd (zz (Ql J (Qh (Q0 (Qd (zy (Gg J J ?_)))))))));refine z3 J (zz (Qk (zy (Gr J (z1 J (zz (Ql J (Qd ?_))))))));refine Qc (Gr J (z1 J (zz (Qm J (zy (Gg J J (z3 J (zx (Z5 J J J J) J (z0 J ?_)))))))));refine zx (Qt.grdT J J J .stop (fun hgrd => Vq J J)) J ?_;refine zx (Ub J (.hit .stop) (fun hgrd => Vr J)) J ?_;refine zx (Ub J (.hit (.hit .stop)) (fun hgrd => Z5 J J J J)) J ?_;refine zx (Zt J J J J) J (z0 J ?_);refine zx (Qt.grdT J J J .stop (fun hgrd => Vq J J)) J ?_;refine zx (Ub J (.hit .stop) (fun hgrd => Vr J)) J ?_;refine zx (Ub J (.hit (.hit .stop)) (fun hgrd => Qj J J (S_in b.Timer 1 25) J)) J ?_;refine zx (Zt J J J J) J (z1 J (zz (Xa (B_r (T_r (F_r ?_))))))
       exact Ud J (Ue [] J J (Xj (by rw [tailM,if_neg k0,if_pos k1,← Bool.decide_and])))
      ·have hk1 : decide (b.Kind = 1) = false := decide_eq_false k1
       refine Con.of Tryz.func105 J Tryz.ntmps105 J (fun E => ?_)
       refine zy (Un (Gf J) J (Un (Gf J) J (z1 J (zz (Qd (Qd (Xh u8_3 u8_4 u8_5 J (Ve (Vq J J) J (Ve (Vr J) J ?_)))))))));refine Ve (Qj J J (h1) J) J ?_;refine Ve (V3 J) J (Ve (Vo J) J (Ve (Gy J (Vq J J)) J (Ve (Gy J (Vr J)) J (Ve (Gy J (Vo J)) J (Ve (Gy J (Xc J J J J (by omega))) J ?_)))));refine Ve (Gy J (Qj J J (h2) J)) J ?_;refine Ve (Gy J (V3 J)) J (Ve (V0 J) J (Ve (Vo J) J (Ve (Gy J (Vs J J)) J (Ve (Gy J (Vq J J)) J (Ve (Gy J (Vr J)) J (Ve (Gy J (Vq J J)) J (Ve (Gy J (Vr J)) J (Ve (Gy J (Vq J J)) J (Ve (Gy J (Vr J)) J ?_)))))))));refine Ve (Gy J (Qj J J (hsz) J)) J ?_;refine Ve (Gy J (Qj J J (h3) J)) J ?_;refine Ve (V0 J) J (Ve (Vo J) J (Ve (Gy J (Vq J J)) J (Ve (Gy J (Vr J)) J ?_)));refine Ve (Gy J (Qj J J (h4) J)) J ?_;refine Ve (Gy J (V3 J)) J (Ve (V0 J) J (Ve (Vo J) J (Ve (Gy J (Vq J J)) J (Ve (Gy J (Vr J)) J ?_))));refine Ve (Gy J (Qj J J (h5) J)) J ?_;refine Ve (Gy J (V3 J)) J (Ve (V0 J) J (Vd (zz (Ql J (Qh (Q0 (Qd (zy (Gg J J ?_)))))))));refine z3 J (zz (Qk (zy (Gr J (z1 J (zz (Ql J (Qd ?_))))))));refine Qc (Gr J (z1 J (zz (Ql J (Qh (Q1 (Q0 (zy (Gg J J ?_)))))))));refine z3 J (zx (Z5 J J J J) J (z0 J ?_));refine zx (Qt.grdT J J J .stop (fun hgrd => Vq J J)) J ?_;refine zx (Ub J (.hit .stop) (fun hgrd => Vr J)) J ?_;refine zx (Ub J (.hit (.hit .stop)) (fun hgrd => Z5 J J J J)) J ?_;refine zx (Zt J J J J) J (z0 J ?_);refine zx (Qt.grdT J J J .stop (fun hgrd => Vq J J)) J ?_;refine zx (Ub J (.hit .stop) (fun hgrd => Vr J)) J ?_;refine zx (Ub J (.hit (.hit .stop)) (fun hgrd => Z5 J J J J)) J ?_;refine zx (Zt J J J J) J (z0 J ?_);refine zx (Qt.grdT J J J .stop (fun hgrd => Vq J J)) J ?_;refine zx (Ub J (.hit .stop) (fun hgrd => Vr J)) J ?_;refine zx (Ub J (.hit (.hit .stop)) (fun hgrd => Z5 J J J J)) J ?_;refine zx (Zt J J J J) J (z1 J (zz (Xa (F_r ?_))))
       exact Ud J (Ue [] J J (Xj (by rw [tailM,if_neg k0,if_neg k1]; simp only [Bool.decide_and,Bool.and_assoc])))
theorem I_BodyOk (l : TLevel) (n : Int) (b : TBody) (hg : Enc.gd l) (hb : Enc.gd b) (hn : 0 ≤ n ∧ n ≤ 1099511627776) : Con Tryz.prog 48 [] [ag l,ai n,ag b] [] (B (levelOk l && bodyM l n b)) := by
 obtain ⟨b1,b2,b3,b4,b5,b6,b7,b8,b9⟩ := hb
 have hc := Xt l hg
 cases hl : levelOk l with
 | false =>
  rw [hl] at hc
  rw [Bool.false_and]
  refine Con.of Tryz.func48 J Tryz.ntmps48 J (fun E => ?_)
  refine zy (Un (Gf J) J (Un (Gf J) J (z1 J (zz (Qd (zy (Gw J J ?_)))))));refine zx (Qj J J (hc) J) J ?_;refine zn J (z0 J (z6 J (z6 J (z6 J (zpT J (z0 J (z6 J (z6 J (z6 J (zpT J (Qe ?_)))))))))));refine Q0 (Qm J (zy (z1 J (zz (Xa (T_r (F_r ?_)))))))
  exact Ud J (Ue [] J J J)
 | true =>
  rw [hl] at hc
  rw [Bool.true_and]
  refine Con.of Tryz.func48 J Tryz.ntmps48 J (fun E => ?_)
  refine zy (Un (Gf J) J (Un (Gf J) J (z1 J (zz (Qd (zy (Gw J J ?_)))))));refine zx (Qj J J (hc) J) J ?_;refine zn J (z0 J (z5 J (Gg J J (z5 J (z3 J (z5 J (zx (Vi J) J (zpF J (z0 J ?_)))))))));refine zx (Qt.grdF J J J .stop (fun hgrd => Vq J J)) J ?_;refine zx (Uj J (.hit .stop) (fun hgrd => Vr J)) J ?_;refine zx (Uj J (.hit (.hit .stop)) (fun hgrd => Z9 J J J J)) J ?_;refine zx (Uk J) J (zz ?_)
  refine Xb J (fun h => ?_) (fun h => ?_)
  ·simp only [Bool.or_eq_true,decide_eq_true_eq] at h
   have e1 : inR b.Kind 0 2 = false := by rw [← Bool.not_eq_true,Za]; omega
   rw [show bodyM l n b = false by rw [bodyM,e1]; rfl]
   refine zy (z1 J (zz (Xa (T_r (F_r ?_)))))
   exact Ud J (Ue [] J J J)
  simp only [Bool.or_eq_false_iff,decide_eq_false_iff_not] at h
  have e1 : inR b.Kind 0 2 = true := Za.2 (by omega)
  have hs16 := size_in e1
  refine Qh (Q0 (Qd (zy (Gg J J (z3 J (zx (Vi J) J (z0 J ?_)))))));refine zx (Qt.grdF J J J .stop (fun hgrd => Vq J J)) J ?_;refine zx (Uj J (.hit .stop) (fun hgrd => Vr J)) J ?_;refine zx (Uj J (.hit (.hit .stop)) (fun hgrd => Vo J)) J ?_;refine zx (Uj J (.hit (.hit (.hit .stop))) (fun hgrd => q_geq J J J J)) J ?_;refine zx (Uk J) J (z0 J ?_);refine zx (Qt.grdF J J J .stop (fun hgrd => Vq J J)) J ?_;refine zx (Uj J (.hit .stop) (fun hgrd => Vr J)) J ?_;refine zx (Uj J (.hit (.hit .stop)) (fun hgrd => Z5 J J J J)) J ?_;refine zx (Uj J (.hit (.hit (.hit .stop))) (fun hgrd => Vo J)) J ?_;refine zx (Qt.grd2T J J J (.hit1 (.hit1 (.hit1 (.hit1 .stop)))) (fun hgrd hgrd2 => Vq J J)) J ?_;refine zx (Qt.grd2T J J J (.hit (.hit1 (.hit1 (.hit1 (.hit1 .stop))))) (fun hgrd hgrd2 => Vr J)) J ?_;refine zx (Qt.grd2T J J J (.hit (.hit (.hit1 (.hit1 (.hit1 (.hit1 .stop)))))) (fun hgrd hgrd2 => Kj J J J J)) J ?_;refine zx (Uj J (.part (.part (.part (.hit (.hit (.hit (.hit .stop))))))) (fun hgrd => Zt J J J J)) J ?_;refine zx (Uk J) J (zz ?_)
  refine Xb J (fun h2 => ?_) (fun h2 => ?_)
  ·simp only [Bool.or_eq_true,Bool.and_eq_true,decide_eq_true_eq] at h2
   rw [show bodyM l n b = false by
    by_cases ho : 0 ≤ b.Owner ∧ b.Owner ≤ n - 1
    ·have hk : b.Kind = 2 ∧ b.Owner ≠ 0 := by omega
     have ht : tailM b = false := by rw [tailM,if_neg (by omega),if_neg (by omega),decide_eq_false (fun hh => hk.2 hh.1)]
     rw [bodyM,ht]; simp
    ·have e2 : inR b.Owner 0 (n - 1) = false := by rw [← Bool.not_eq_true,Za]; exact ho
     rw [bodyM,e2]; simp]
   refine zy (z1 J (zz (Xa (T_r (F_r ?_)))))
   exact Ud J (Ue [] J J J)
  simp only [Bool.or_eq_false_iff,Bool.and_eq_false_iff,decide_eq_false_iff_not] at h2
  have e2 : inR b.Owner 0 (n - 1) = true := Za.2 (by omega)
  have hsz := I_SizeOf b.Kind
  have h3 := I_SolidAt l b.X b.Y (sizeOf b.Kind) hg b3 b4
  rw [show solidAt l b.X b.Y (sizeOf b.Kind) = solidM l b.X b.Y (sizeOf b.Kind) by rw [solidAt,hl,Za.2 hs16]; rfl] at h3
  cases e3 : solidM l b.X b.Y (sizeOf b.Kind) with
  | true =>
   rw [e3] at h3
   rw [show bodyM l n b = false by rw [bodyM,e1,e2,e3]; rfl]
   refine Qh (Q0 (Qd (Qd (Xh u8_6 u8_7 u8_8 J (Ve (Vs J J) J (Ve (Vq J J) J (Ve (Vr J) J (Ve (Vq J J) J (Ve (Vr J) J (Ve (Vq J J) J (Ve (Vr J) J ?_)))))))))));refine Ve (Qj J J (hsz) J) J ?_;refine Ve (Qj J J (h3) J) J ?_;refine Vd (zz (Qm J (zy (z1 J (zz (Xa (T_r (F_r ?_))))))))
   exact Ud J (Ue [] J J J)
  | false =>
   rw [e3] at h3
   refine Qh (Q0 (Qd (Qd (Xh u8_6 u8_7 u8_8 J (Ve (Vs J J) J (Ve (Vq J J) J (Ve (Vr J) J (Ve (Vq J J) J (Ve (Vr J) J (Ve (Vq J J) J (Ve (Vr J) J ?_)))))))))));refine Ve (Qj J J (hsz) J) J ?_;refine Ve (Qj J J (h3) J) J ?_;refine Vd (zz (Ql J (Qh (Q0 (Qd (zy (Gg J J (z3 J ?_))))))));refine zx (Qj J J (Xu b.VX (-15) 15) J) J ?_;refine zn J (z0 J ?_);refine zx (Qt.grdF J J J .stop (fun hgrd => Vq J J)) J ?_;refine zx (Uj J (.hit .stop) (fun hgrd => Vr J)) J ?_;refine zx (Uj J (.hit (.hit .stop)) (fun hgrd => Qj J J (Xu b.VY (-15) 15) J)) J ?_;refine zx (Uj J (.hit (.hit (.hit .stop))) (fun hgrd => V3 J)) J ?_;refine zx (Uk J) J (zz ?_)
   refine Xb J (fun h4 => ?_) (fun h4 => ?_)
   ·simp only [Bool.or_eq_true,Bool.not_eq_true'] at h4
    rw [show bodyM l n b = false by rw [bodyM]; rcases h4 with h4 | h4 <;> rw [h4] <;> simp]
    refine zy (z1 J (zz (Xa (T_r (F_r ?_)))))
    exact Ud J (Ue [] J J J)
   simp only [Bool.or_eq_false_iff,Bool.not_eq_false'] at h4
   rw [show bodyM l n b = tailM b by rw [bodyM,e1,e2,e3,h4.1,h4.2]; rfl]
   by_cases k0 : b.Kind = 0
   ·have hk : decide (b.Kind = 0) = true := decide_eq_true k0
    refine Qh (Q0 (Qd (zy (Gg J J (z3 J (Gr J (zz (Qm J (Qd ?_)))))))));refine zy (Gg J J (z3 J (zx (Kj J J J J) J (z0 J ?_))));refine zx (Qt.grdT J J J .stop (fun hgrd => Vq J J)) J ?_;refine zx (Ub J (.hit .stop) (fun hgrd => Vr J)) J ?_;refine zx (Ub J (.hit (.hit .stop)) (fun hgrd => Kj J J J J)) J ?_;refine zx (Zt J J J J) J (z0 J ?_);refine zx (Qt.grdF J J J .stop (fun hgrd => Vq J J)) J ?_;refine zx (Uj J (.hit .stop) (fun hgrd => Vr J)) J ?_;refine zx (Uj J (.hit (.hit .stop)) (fun hgrd => Qj J J (Xu b.Life 0 3) J)) J ?_;refine zx (Uj J (.hit (.hit (.hit .stop))) (fun hgrd => V3 J)) J ?_;refine zx (Uk J) J (zz ?_)
    refine Xb J (fun h => ?_) (fun h => ?_)
    ·rw [show tailM b = false by
      rw [tailM,if_pos k0]
      simp only [Bool.or_eq_true,Bool.and_eq_true,decide_eq_true_eq,Bool.not_eq_true'] at h
      rcases h with h | h
      ·rw [decide_eq_false (by omega)]; rfl
      ·rw [h]; simp]
     refine zy (z1 J (zz (Xa (T_r (T_r (F_r ?_))))))
     exact Ud J (Ue [] J J J)
    simp only [Bool.or_eq_false_iff,Bool.and_eq_false_iff,decide_eq_false_iff_not,Bool.not_eq_false'] at h
    have hlf := Za.1 h.2
    have ht : tailM b = if b.Life = 0 then inR b.Timer 1 20 else inR b.Timer 0 12 := by
     rw [tailM,if_pos k0,decide_eq_true (by omega),h.2]; rfl
    by_cases l0 : b.Life = 0
    ·have hk2 : decide (0 < b.Life) = false := decide_eq_false (by omega)
     rw [ht,if_pos l0]
     refine Qh (Q0 (Qd (zy (Gg J J (z3 J (Gb J (zz (Ql J (Qh ?_)))))))));refine Q0 (zy (Gg J J (z3 J ?_)));refine zx (Qj J J (Xu b.Timer 1 20) J) J ?_;refine z1 J (zz (Xa (T_r (F_r ?_))))
     exact Ud J (Ue [] J J J)
    ·have hk2 : decide (0 < b.Life) = true := decide_eq_true (by omega)
     rw [ht,if_neg l0]
     refine Qh (Q0 (Qd (zy (Gg J J (z3 J (Gb J (zz (Qm J (Qd ?_)))))))));refine Qc (Gg J J (z3 J ?_));refine zx (Qj J J (Xu b.Timer 0 12) J) J ?_;refine z1 J (zz (Xa (T_r (T_r (F_r ?_)))))
     exact Ud J (Ue [] J J J)
   have hk : decide (b.Kind = 0) = false := decide_eq_false k0
   refine Qh (Q0 (Qd (zy (Gg J J (z3 J (Gr J (zz (Ql J (Qh ?_)))))))));refine Q0 (Qd (zy (Gg J J (z3 J (zx (Kj J J J J) J (z0 J ?_))))));refine zx (Qt.grdF J J J .stop (fun hgrd => Vq J J)) J ?_;refine zx (Uj J (.hit .stop) (fun hgrd => Vr J)) J ?_;refine zx (Uj J (.hit (.hit .stop)) (fun hgrd => Kj J J J J)) J ?_;refine zx (Uk J) J (zz ?_)
   refine Xb J (fun h5 => ?_) (fun h5 => ?_)
   ·simp only [Bool.or_eq_true,decide_eq_true_eq] at h5
    rw [show tailM b = false by
     rw [tailM,if_neg k0]
     split
     ·rw [decide_eq_false (by omega)]; rfl
     ·exact decide_eq_false (by omega)]
    refine zy (z1 J (zz (Xa (T_r (F_r ?_)))))
    exact Ud J (Ue [] J J J)
   simp only [Bool.or_eq_false_iff,decide_eq_false_iff_not] at h5
   by_cases k1 : b.Kind = 1
   ·have hk1 : decide (b.Kind = 1) = true := decide_eq_true k1
    rw [show tailM b = inR b.Timer 1 25 by rw [tailM,if_neg k0,if_pos k1,decide_eq_true (by omega)]; rfl]
    refine Qh (Q0 (Qd (zy (Gg J J (z3 J (Gr J (zz (Qm J (Qd ?_)))))))));refine Qc (Gg J J (z3 J ?_));refine zx (Qj J J (Xu b.Timer 1 25) J) J ?_;refine z1 J (zz (Xa (T_r (F_r ?_))))
    exact Ud J (Ue [] J J J)
   ·have hk1 : decide (b.Kind = 1) = false := decide_eq_false k1
    rw [show tailM b = decide (b.Timer = 0) by rw [tailM,if_neg k0,if_neg k1]; exact decide_eq_decide.2 (by omega)]
    refine Qh (Q0 (Qd (zy (Gg J J (z3 J (Gr J (zz (Ql J (Qh ?_)))))))));refine Q0 (zy (Gg J J (z3 J (zx (Z5 J J J J) J (z1 J (zz (Xa (F_r ?_))))))))
    exact Ud J (Ue [] J J J)
end
end Go.Proofs.YtcjclaoogdblbaaGreat
