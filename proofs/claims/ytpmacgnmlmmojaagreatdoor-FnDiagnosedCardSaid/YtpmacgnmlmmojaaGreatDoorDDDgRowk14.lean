/-
  Parts of the proof (rules, data, and what functions of the program and of the reference return), among them: A new replay, in the program and in the reference; Walls: SizeOf, solid, SolidAt of the program; SizeOf, l02Solid of the reference.
  Conditions: those that each theorem names.
-/
import Derived.Test.YtpmacgnmlmmojaaGreatDoorDDDgRowk13
set_option linter.unusedSimpArgs false
set_option linter.unusedVariables false
set_option maxRecDepth 8000
set_option maxHeartbeats 8000000
namespace Go.Proofs.YtpmacgnmlmmojaaGreatDoor
section
open Go.RowKit

theorem Xr (x : TLevel) (hg : Enc.gd x) : Con Tryz.prog 117 [] [ag x] [] (B (levelOk x)) := by
 obtain ⟨rows⟩ := x
 have hn : Enc.gd rows := hg
 have hn1 := hn.1
 have hlx := Ym rows
 refine Con.of Tryz.func117 J Tryz.ntmps117 J (fun E => ?_)
 refine Wz [26,22,5,12,48,0,86,94,159] ?_;refine zx (Qt.grdF J J J (.hit (.hit (.hit .stop))) (fun hgrd => q_gtr J J J J)) J ?_;refine Wz [43,1] ?_
 refine Xb J (fun h => ?_) (fun h => ?_)
 ·simp only [Bool.or_eq_true,decide_eq_true_eq] at h
  refine Wz [55] ?_
  exact Xn J J (X6 [] (by decide) J J (Xj (by simp [levelOk]; omega)))
 simp only [Bool.or_eq_false_iff,decide_eq_false_iff_not] at h
 have h0 : 0 < rows.length := by omega
 have hat0 : (els rows)[(0 : Int).toNat]? = some (Enc.e rows[0]) := Yl h0
 have hw := width_at h0
 refine Wz [68,5,61,80,56,48,0,91] ?_;refine zx (Qt.grdF J J J (.hit .stop) (fun hgrd => q_gtr J J J J)) J ?_;refine Wz [43,1] ?_
 refine Xb J (fun h1 => ?_) (fun h1 => ?_)
 ·simp only [Bool.or_eq_true,decide_eq_true_eq] at h1
  refine Wz [55] ?_
  exact Xn J J (X6 [] (by decide) J J (Xj (by simp [levelOk]; omega)))
 simp only [Bool.or_eq_false_iff,decide_eq_false_iff_not] at h1
 obtain ⟨w,hw'⟩ : ∃ w,w = rows[0].size := ⟨_,rfl⟩
 rw [← hw'] at hw h1
 refine Wz [68,4,18,1,11,20,5,12,78,13] ?_;refine Xi (fun m st => ∃ (k : Nat) (s : Seen × Bool),k + m = rows.length ∧ (rowsM rows w k = some s) ∧ st = (⟨_,[(1,.o (.c (.ptr 0 0))),(3,I w),(4,.o (.c (.ptr 1 0))),(5,B s.2),(33,L rows),(34,I (els rows).length),(35,I k)],[.box [.rd [] (sl rows)],.box [vb false,vb s.1.1,vb s.1.2.1,vb s.1.2.2.1,vb s.1.2.2.2]]⟩ : St)) (rows.length) ⟨(fun (k : Nat) (s : Seen × Bool) => (⟨_,[(1,.o (.c (.ptr 0 0))),(3,I w),(4,.o (.c (.ptr 1 0))),(5,B s.2),(33,L rows),(34,I (els rows).length),(35,I k)],[.box [.rd [] (sl rows)],.box [vb false,vb s.1.1,vb s.1.2.1,vb s.1.2.2.1,vb s.1.2.2.2]]⟩ : St)) 0 (((false,false,false,false),false)),⟨0,((false,false,false,false),false),by omega,J,J⟩,X8 [0,1] (by decide) J (by kernel_rfl) (.c J (.cons (Xy (by omega)) (.c J (.c J (.c J (.c J (.c J (.nil))))))))⟩ ?_
 rintro m_A _ ⟨k,s,hk_A,hp_A,rfl⟩
 refine Wz [4,48,21] ?_
 refine Xb J (fun h => ?_) (fun h => ?_)
 ·have h3 : k < rows.length := by have := of_decide_eq_true h; omega
  have hat := Yl h3
  have hgk : rows[k].size ≤ 9223372036854775807 := hn.2 _ (List.getElem_mem h3)
  refine Wz [52,61,72,56,80,0,114,1] ?_
  refine Xb J (fun h4 => ?_) (fun h4 => ?_)
  ·have h4 : ¬ rows[k].size = w := by have := of_decide_eq_true h4; omega
   refine Wz [62,83,121,25] ?_
   exact Xn J J (X6 [] (by decide) J J (Xj (level_no (l := ⟨rows⟩) h3 hw (rows_bad h3 h4)).symm))
  have h4 : rows[k].size = w := by have := of_decide_eq_false h4; omega
  have hrn := rows_next hp_A h3 h4
  obtain ⟨er,her⟩ : ∃ er,er = (decide (k = 0) || decide (k + 1 = rows.length)) := ⟨_,rfl⟩
  rw [← her] at hrn
  refine Wz [68,11,13] ?_;refine Xi (fun m st => ∃ (c : Nat) (u : Seen × Bool),c + m = w ∧ (colsM rows[k] er w s c = some u) ∧ st = (⟨_,[(1,.o (.c (.ptr 0 0))),(3,I w),(4,.o (.c (.ptr 1 0))),(5,B u.2),(6,I k),(7,S rows[k]),(8,I c),(33,L rows),(34,I (els rows).length),(35,I k)],[.box [.rd [] (sl rows)],.box [vb false,vb u.1.1,vb u.1.2.1,vb u.1.2.2.1,vb u.1.2.2.2]]⟩ : St)) (w) ⟨_,⟨0,s,by omega,J,J⟩,X7 [0,1] (by kernel_rfl)⟩ ?_
  rintro m_D _ ⟨c,u,hk_D,hp_D,rfl⟩
  refine Wz [36,48,1] ?_
  refine Xb J (fun h5 => ?_) (fun h5 => ?_)
  ·have h5 : c < w := by have := of_decide_eq_true h5; omega
   have hcn := cols_next hp_D
   obtain ⟨t,ht⟩ : ∃ t,byteAt rows[k] (c : Int).toNat = t := ⟨_,rfl⟩
   rw [show byteAt rows[k] c = t from ht] at hcn
   have htb : 0 ≤ t ∧ t ≤ 255 := ht ▸ Yh _ _
   obtain ⟨⟨sa,sb,sc,sd⟩,so⟩ := u
   obtain ⟨e,he⟩ : ∃ e,e = (er || decide (c = 0) || decide (c + 1 = w)) := ⟨_,rfl⟩
   rw [← he] at hcn
   refine Wz [29,39,141,2,7,148,0,91] ?_;refine zx (Qt.grdF J J J (.hit .stop) (fun hgrd => Qf J J J J (by decide))) J ?_;refine zx (Qt.grdF J J J (.hit (.hit .stop)) (fun hgrd => Qg J J J J J)) J ?_;refine zx (Qt.grdF J J J (.hit (.hit (.hit .stop))) (fun hgrd => Zr J J J)) J ?_;refine zx (Qt.grdF J J J (.hit (.hit (.hit (.hit .stop)))) (fun hgrd => Xc J J J J (by omega))) J ?_;refine zx (Qt.grdF J J J (.hit (.hit (.hit (.hit (.hit .stop))))) (fun hgrd => Zm J J J J)) J ?_;refine Wz [43,0,91] ?_;refine zx (Qt.grdF J J J (.hit .stop) (fun hgrd => Zm J J J J)) J ?_;refine Wz [43,0,91] ?_;refine zx (Qt.grdF J J J (.hit .stop) (fun hgrd => Qa J J J)) J ?_;refine zx (Qt.grdF J J J (.hit (.hit .stop)) (fun hgrd => Xc J J J J (by omega))) J ?_;refine zx (Qt.grdF J J J (.hit (.hit (.hit .stop))) (fun hgrd => Zm J J J J)) J ?_;refine Wz [43,2,36,129] ?_;refine zx (Qt.grdT J J J (.hit .stop) (fun hgrd => Zz J J J J)) J ?_;refine Wz [76,1] ?_
   have hee : (decide ((k : Int) = 0) || decide ((k : Int) = ((els rows).length : Int) - 1) || decide ((c : Int) = 0) || decide ((c : Int) = (w : Int) - 1)) = e := by
    rw [he,her,hlx]
    have g1 : decide ((k : Int) = 0) = decide (k = 0) := by simp
    have g2 : decide ((k : Int) = (rows.length : Int) - 1) = decide (k + 1 = rows.length) := decide_eq_decide.2 (by omega)
    have g3 : decide ((c : Int) = 0) = decide (c = 0) := by simp
    have g4 : decide ((c : Int) = (w : Int) - 1) = decide (c + 1 = w) := decide_eq_decide.2 (by omega)
    rw [g1,g2,g3,g4]
   clear he her
   have hbad : colsM rows[k] er w s (c + 1) = none → levelOk ⟨rows⟩ = false := fun hc => level_no (l := ⟨rows⟩) h3 hw (hrn.trans (cols_none hc (by omega)))
   refine Xb J (fun h6 => ?_) (fun h6 => ?_)
   ·rw [hee] at h6
    simp only [Bool.and_eq_true,decide_eq_true_eq] at h6
    refine Wz [62,83,121,63,25] ?_
    exact Xn J J (X6 [] (by decide) J J (Xj (hbad (hcn.trans (by simp [tileM,h6]))).symm))
   rw [hee] at h6
   have h7 : t = 35 ∨ e = false := by
    simp only [Bool.and_eq_false_iff,decide_eq_false_iff_not,Classical.not_not] at h6
    exact h6.symm
   clear h6 hee
   refine AWP.pre (st' := (⟨_,[(1,.o (.c (.ptr 0 0))),(3,I w),(4,.o (.c (.ptr 1 0))),(5,B so),(6,I k),(7,S rows[k]),(8,I c),(9,VI .u8 t),(33,L rows),(34,I (els rows).length),(35,I k)],[.box [.rd [] (sl rows)],.box [vb false,vb sa,vb sb,vb sc,vb sd]]⟩ : St)) ?_ (X7 [0,1] (by kernel_rfl))
   rcases h7 with rfl | h7
   ·refine Wz [52] ?_
    refine zx (Zp (b := false) J J J J (by decide)) J ?_;refine Wz [44,8,2,47,7,149,44,8,44,8,2,47,96,90,7,149,45,50] ?_
    exact ⟨w - (c + 1),by omega,_,⟨c + 1,((sa,sb,sc,sd),so),by omega,hcn.trans (by simp [tileM]),J⟩,X7 [0,1] (by kernel_rfl)⟩
   subst h7
   rcases (by omega : t = 35 ∨ t = 49 ∨ t = 50 ∨ t = 51 ∨ t = 52 ∨ t = 111 ∨ t = 46 ∨ (t ≠ 35 ∧ t ≠ 49 ∧ t ≠ 50 ∧ t ≠ 51 ∧ t ≠ 52 ∧ t ≠ 111 ∧ t ≠ 46)) with rfl | rfl | rfl | rfl | rfl | rfl | rfl | ht7
   ·refine Wz [52] ?_
    refine zx (Zp (b := false) J J J J (by decide)) J ?_;refine Wz [44,8,2,47,7,149,44,8,44,8,2,47,96,90,7,149,45,50] ?_
    exact ⟨w - (c + 1),by omega,_,⟨c + 1,((sa,sb,sc,sd),so),by omega,hcn.trans (by simp [tileM]),J⟩,X7 [0,1] (by kernel_rfl)⟩
   ·refine Wz [52] ?_
    refine Wz [142,16,150,24,2,46,28,115,151,105,1] ?_
    refine Xb J (fun h8 => ?_) (fun h8 => ?_)
    ·have h8 : sa = true := h8
     subst h8
     refine Wz [62,83,83,121,63,25] ?_
     exact Xn J J (X6 [] (by decide) J J (Xj (hbad (hcn.trans (by simp [tileM]))).symm))
    ·have h8 : sa = false := h8
     subst h8
     refine Wz [68,49,115,151,125,74,90,7,97,9,81,51,50] ?_
     exact ⟨w - (c + 1),by omega,_,⟨c + 1,((true,sb,sc,sd),true),by omega,hcn.trans (by simp [tileM]),J⟩,X7 [0,1] (by kernel_rfl)⟩
   ·refine Wz [52] ?_
    refine Wz [142,16,150,24,2,46,28,115,151,105,1] ?_
    refine Xb J (fun h8 => ?_) (fun h8 => ?_)
    ·have h8 : sb = true := h8
     subst h8
     refine Wz [62,83,83,121,63,25] ?_
     exact Xn J J (X6 [] (by decide) J J (Xj (hbad (hcn.trans (by simp [tileM]))).symm))
    ·have h8 : sb = false := h8
     subst h8
     refine Wz [68,49,115,151,125,74,90,7,97,9,81,51,50] ?_
     exact ⟨w - (c + 1),by omega,_,⟨c + 1,((sa,true,sc,sd),true),by omega,hcn.trans (by simp [tileM]),J⟩,X7 [0,1] (by kernel_rfl)⟩
   ·refine Wz [52] ?_
    refine Wz [142,16,150,24,2,46,28,115,151,105,1] ?_
    refine Xb J (fun h8 => ?_) (fun h8 => ?_)
    ·have h8 : sc = true := h8
     subst h8
     refine Wz [62,83,83,121,63,25] ?_
     exact Xn J J (X6 [] (by decide) J J (Xj (hbad (hcn.trans (by simp [tileM]))).symm))
    ·have h8 : sc = false := h8
     subst h8
     refine Wz [68,49,115,151,125,74,90,7,97,9,81,51,50] ?_
     exact ⟨w - (c + 1),by omega,_,⟨c + 1,((sa,sb,true,sd),true),by omega,hcn.trans (by simp [tileM]),J⟩,X7 [0,1] (by kernel_rfl)⟩
   ·refine Wz [52] ?_
    refine Wz [142,16,150,24,2,46,28,115,151,105,1] ?_
    refine Xb J (fun h8 => ?_) (fun h8 => ?_)
    ·have h8 : sd = true := h8
     subst h8
     refine Wz [62,83,83,121,63,25] ?_
     exact Xn J J (X6 [] (by decide) J J (Xj (hbad (hcn.trans (by simp [tileM]))).symm))
    ·have h8 : sd = false := h8
     subst h8
     refine Wz [68,49,115,151,125,74,90,7,97,9,81,51,50] ?_
     exact ⟨w - (c + 1),by omega,_,⟨c + 1,((sa,sb,sc,true),true),by omega,hcn.trans (by simp [tileM]),J⟩,X7 [0,1] (by kernel_rfl)⟩
   ·refine Wz [52] ?_
    refine Wz [142,16] ?_;refine zx (Zu (b := false) J J J J (by decide)) J ?_;refine Wz [24,2,47,7,97,16,149,24,44,8,2,47,96,90,7,97,9,81,51,50] ?_
    exact ⟨w - (c + 1),by omega,_,⟨c + 1,((sa,sb,sc,sd),true),by omega,hcn.trans (by simp [tileM]),J⟩,X7 [0,1] (by kernel_rfl)⟩
   ·refine Wz [52] ?_
    refine zx (Zp (b := false) J J J J (by decide)) J ?_;refine Wz [44,8,2,47,7,97,16,97,24,16,149,24,2,47,96,90,7,97,9,81,51,50] ?_
    exact ⟨w - (c + 1),by omega,_,⟨c + 1,((sa,sb,sc,sd),true),by omega,hcn.trans (by simp [tileM]),J⟩,X7 [0,1] (by kernel_rfl)⟩
   ·refine Wz [52,165] ?_
    refine Wz [0,129] ?_;refine zx (Qt.grdT J J J (.hit .stop) (fun hgrd => q_leq J J J J)) J ?_;refine Wz [76,2] ?_
    refine Xb J (fun h8 => ?_) (fun h8 => ?_)
    ·simp only [Bool.and_eq_true,decide_eq_true_eq] at h8
     omega
    refine Wz [7,114,0,129] ?_;refine zx (Qt.grdT J J J (.hit .stop) (fun hgrd => Zz J J J J)) J ?_;refine Wz [76,0,129] ?_;refine zx (Qt.grdT J J J (.hit .stop) (fun hgrd => Zz J J J J)) J ?_;refine Wz [76,2] ?_
    refine Xb J (fun h9 => ?_) (fun h9 => ?_)
    ·refine Wz [62,133,83,166] ?_
     refine Wz [83,63,25] ?_
     exact Xn J J (X6 [] (by decide) J J (Xj (hbad (hcn.trans (by simp [tileM,ht7]))).symm))
    ·simp only [Bool.and_eq_false_iff,decide_eq_false_iff_not,Classical.not_not] at h9
     omega
  ·have h5 : c = w := by have := of_decide_eq_false h5; omega
   rw [h5] at hp_D
   rw [hp_D] at hrn
   refine Wz [136,38] ?_
   exact ⟨rows.length - (k + 1),by omega,_,⟨k + 1,u,by omega,hrn,J⟩,X7 [0,1] (by kernel_rfl)⟩
 ·have h3 : ¬ ((k : Int) < (els rows).length) := of_decide_eq_false h
  have hk : k = rows.length := by omega
  subst hk
  refine Wz [32,7,34] ?_
  exact Xn J J (X6 [] (by decide) J J (Xj (by
   unfold levelOk
   rw [hw,hp_A]
   have : 3 ≤ rows.length ∧ rows.length ≤ 12 ∧ 4 ≤ w ∧ w ≤ 20 := by omega
   simp [this])))
end
section
open Go.RowKit

theorem S_LevelOk (x : TLevel) (hg : Enc.gd x) : Con Tryz.prog 187 [] [ag x] [] (B (levelOk x)) := by
 obtain ⟨rows⟩ := x
 have hn : Enc.gd rows := hg
 have hn1 := hn.1
 have hlx := Ym rows
 refine Con.of Tryz.func187 J Tryz.ntmps187 J (fun E => ?_)
 refine Wz [26,22,5,12] ?_;refine zx (Qj J J (S_in (els rows).length 3 12) J) J ?_;refine Wz [14,1] ?_
 refine Xb J (fun h => ?_) (fun h => ?_)
 ·refine Wz [55] ?_
  exact Xn J J (X6 [] (by decide) J J (Xj (by simp [inR] at h; simp [levelOk]; omega)))
 have h : 3 ≤ rows.length ∧ rows.length ≤ 12 := by simp [inR] at h; omega
 have h0 : 0 < rows.length := by omega
 have hat0 : (els rows)[(0 : Int).toNat]? = some (Enc.e rows[0]) := Yl h0
 have hw := width_at h0
 obtain ⟨w,hw'⟩ : ∃ w,w = rows[0].size := ⟨_,rfl⟩
 rw [← hw'] at hw
 have hg0 : rows[0].size ≤ 9223372036854775807 := hn.2 _ (List.getElem_mem h0)
 refine Wz [68,5,61,80,2,11,4,54,22,11,13] ?_;refine Xi (fun m st => ∃ (k : Nat) (s : Seen × Bool),k + m = rows.length ∧ (rowsM rows w k = some s ∧ (0 < k → 4 ≤ w ∧ w ≤ 20)) ∧ st = (⟨_,[(1,.o (.c (.ptr 0 0))),(3,I w),(4,B s.2),(5,.o (.c (.sb 1 4 1))),(6,I k)],[.box [.rd [] (sl rows)],.box [vb s.1.1,vb s.1.2.1,vb s.1.2.2.1,vb s.1.2.2.2]]⟩ : St)) (rows.length) ⟨(fun (k : Nat) (s : Seen × Bool) => (⟨_,[(1,.o (.c (.ptr 0 0))),(3,I w),(4,B s.2),(5,.o (.c (.sb 1 4 1))),(6,I k)],[.box [.rd [] (sl rows)],.box [vb s.1.1,vb s.1.2.1,vb s.1.2.2.1,vb s.1.2.2.2]]⟩ : St)) 0 (((false,false,false,false),false)),⟨0,((false,false,false,false),false),by omega,⟨J,by omega⟩,J⟩,X8 [0,1] (by decide) J (by kernel_rfl) (.c J (.cons (Xy (by omega)) (.c J (.c J (.c J (.nil))))))⟩ ?_
 rintro m_A _ ⟨k,s,hk_A,hp_A,rfl⟩
 refine Wz [28,17,12,48,1] ?_
 refine Xb J (fun h => ?_) (fun h => ?_)
 ·have h3 : k < rows.length := by have := of_decide_eq_true h; omega
  have hat := Yl h3
  have hwc : ((rows[0].size : Nat) : Int) = w := by omega
  have hgk : rows[k].size ≤ 9223372036854775807 := hn.2 _ (List.getElem_mem h3)
  refine Wz [29,20,5,0,61,80,0,114,0,91] ?_;refine zx (Qt.grdF J J J (.hit .stop) (fun hgrd => Qj J J (S_in w 4 20) J)) J ?_;refine zx (Qt.grdF J J J (.hit (.hit .stop)) (fun hgrd => Q4 J J J)) J ?_;refine Wz [43,1] ?_
  refine Xb J (fun h4 => ?_) (fun h4 => ?_)
  ·simp only [Bool.or_eq_true,decide_eq_true_eq,Bool.not_eq_true',inR,Bool.and_eq_false_iff,decide_eq_false_iff_not] at h4
   refine Wz [62,83,121,25] ?_
   refine Xn J J (X6 [] (by decide) J J (Xj ?_))
   by_cases h4' : rows[k].size = w
   ·have : ¬ (4 ≤ w ∧ w ≤ 20) := by omega
    simp only [levelOk,hw]
    rcases Nat.lt_or_ge w 4 with h9 | h9
    ·simp [show ¬ 4 ≤ w by omega]
    ·simp [show ¬ w ≤ 20 by omega]
   ·exact (level_no (l := ⟨rows⟩) h3 hw (rows_bad h3 h4')).symm
  simp only [Bool.or_eq_false_iff,decide_eq_false_iff_not,Bool.not_eq_false',inR,Bool.and_eq_true,decide_eq_true_eq] at h4
  have h1 : 4 ≤ w ∧ w ≤ 20 := by omega
  have h4 : rows[k].size = w := by omega
  have hrn := rows_next hp_A.1 h3 h4
  obtain ⟨er,her⟩ : ∃ er,er = (decide (k = 0) || decide (k + 1 = rows.length)) := ⟨_,rfl⟩
  rw [← her] at hrn
  refine Wz [68,11,13] ?_;refine Xi (fun m st => ∃ (c : Nat) (u : Seen × Bool),c + m = w ∧ (colsM rows[k] er w s c = some u) ∧ st = (⟨_,[(1,.o (.c (.ptr 0 0))),(3,I w),(4,B u.2),(5,.o (.c (.sb 1 4 1))),(6,I k),(7,I c)],[.box [.rd [] (sl rows)],.box [vb u.1.1,vb u.1.2.1,vb u.1.2.2.1,vb u.1.2.2.2]]⟩ : St)) (w) ⟨_,⟨0,s,by omega,J,J⟩,X7 [0,1] (by kernel_rfl)⟩ ?_
  rintro m_D _ ⟨c,u,hk_D,hp_D,rfl⟩
  refine Wz [36,48,1] ?_
  refine Xb J (fun h5 => ?_) (fun h5 => ?_)
  ·have h5 : c < w := by have := of_decide_eq_true h5; omega
   have hcn := cols_next hp_D
   obtain ⟨t,ht⟩ : ∃ t,byteAt rows[k] (c : Int).toNat = t := ⟨_,rfl⟩
   rw [show byteAt rows[k] c = t from ht] at hcn
   have htb : 0 ≤ t ∧ t ≤ 255 := ht ▸ Yh _ _
   obtain ⟨⟨sa,sb,sc,sd⟩,so⟩ := u
   obtain ⟨e,he⟩ : ∃ e,e = (er || decide (c = 0) || decide (c + 1 = w)) := ⟨_,rfl⟩
   rw [← he] at hcn
   refine Wz [29,5,0,61,0,141,2,7,148,0,91] ?_;refine zx (Qt.grdF J J J (.hit .stop) (fun hgrd => Zm J J J J)) J ?_;refine Wz [43,0,91] ?_;refine zx (Qt.grdF J J J (.hit .stop) (fun hgrd => Qf J J J J (by decide))) J ?_;refine zx (Qt.grdF J J J (.hit (.hit .stop)) (fun hgrd => Qg J J J J J)) J ?_;refine zx (Qt.grdF J J J (.hit (.hit (.hit .stop))) (fun hgrd => Zr J J J)) J ?_;refine zx (Qt.grdF J J J (.hit (.hit (.hit (.hit .stop)))) (fun hgrd => Xc J J J J (by omega))) J ?_;refine zx (Qt.grdF J J J (.hit (.hit (.hit (.hit (.hit .stop))))) (fun hgrd => Zm J J J J)) J ?_;refine Wz [43,0,91] ?_;refine zx (Qt.grdF J J J (.hit .stop) (fun hgrd => Qa J J J)) J ?_;refine zx (Qt.grdF J J J (.hit (.hit .stop)) (fun hgrd => Xc J J J J (by omega))) J ?_;refine zx (Qt.grdF J J J (.hit (.hit (.hit .stop))) (fun hgrd => Zm J J J J)) J ?_;refine Wz [43,22,13,7,148,2] ?_
   have hee : (decide ((k : Int) = 0) || decide ((c : Int) = 0) || decide ((k : Int) = ((els rows).length : Int) - 1) || decide ((c : Int) = (w : Int) - 1)) = e := by
    rw [he,her,hlx]
    have g1 : decide ((k : Int) = 0) = decide (k = 0) := by simp
    have g2 : decide ((k : Int) = (rows.length : Int) - 1) = decide (k + 1 = rows.length) := decide_eq_decide.2 (by omega)
    have g3 : decide ((c : Int) = 0) = decide (c = 0) := by simp
    have g4 : decide ((c : Int) = (w : Int) - 1) = decide (c + 1 = w) := decide_eq_decide.2 (by omega)
    rw [g1,g2,g3,g4]
    cases decide (k = 0) <;> cases decide (c = 0) <;> cases decide (k + 1 = rows.length) <;> rfl
   clear he her
   have hbad : colsM rows[k] er w s (c + 1) = none → levelOk ⟨rows⟩ = false := fun hc => level_no (l := ⟨rows⟩) h3 hw (hrn.trans (cols_none hc (by omega)))
   refine AWP.pre (st' := (⟨_,[(1,.o (.c (.ptr 0 0))),(3,I w),(4,B so),(5,.o (.c (.sb 1 4 1))),(6,I k),(7,I c),(8,VI .u8 t),(9,B e),(73,B (decide (t = 35)))],[.box [.rd [] (sl rows)],.box [vb sa,vb sb,vb sc,vb sd]]⟩ : St)) ?_ (X8 [0,1] (by decide) J (by kernel_rfl) (.c J (.c J (.c J (.c J (.c J (.c J (.c J (.cons (Xj hee) (.c J (.nil)))))))))))
   by_cases h7 : t = 35
   ·subst h7
    refine Wz [46,96,124,0,0,91] ?_;refine zx (Qt.grdF J J J (.hit .stop) (fun hgrd => Qw (b := false) J J J J (by decide))) J ?_;refine Wz [43,51,50] ?_
    exact ⟨w - (c + 1),by omega,(fun (c : Nat) (u : Seen × Bool) => (⟨_,[(1,.o (.c (.ptr 0 0))),(3,I w),(4,B u.2),(5,.o (.c (.sb 1 4 1))),(6,I k),(7,I c)],[.box [.rd [] (sl rows)],.box [vb u.1.1,vb u.1.2.1,vb u.1.2.2.1,vb u.1.2.2.2]]⟩ : St)) (c + 1) (((sa,sb,sc,sd),so)),⟨c + 1,((sa,sb,sc,sd),so),by omega,hcn.trans (by simp [tileM]),J⟩,X8 [0,1] (by decide) J (by kernel_rfl) (.c J (.c J (.cons (Xj (by simp)) (.c J (.c J (.c J (.nil)))))))⟩
   cases e
   case true =>
    have f1 : decide (t = 35) = false := decide_eq_false h7
    refine Xb J (fun h => absurd (of_decide_eq_true h) h7) (fun _ => ?_)
    refine Wz [39,53,84,82,82,53,82,82,82,82,82,82,84,24,2,46,62,133,83,121,63,25] ?_
    exact Xn J J (X6 [] (by decide) J J (Xj (hbad (hcn.trans (by simp [tileM,h7]))).symm))
   refine Xb J (fun h => absurd (of_decide_eq_true h) h7) (fun _ => ?_)
   rcases (by omega : t = 49 ∨ t = 50 ∨ t = 51 ∨ t = 52 ∨ t = 111 ∨ t = 46 ∨ (t ≠ 35 ∧ t ≠ 49 ∧ t ≠ 50 ∧ t ≠ 51 ∧ t ≠ 52 ∧ t ≠ 111 ∧ t ≠ 46)) with rfl | rfl | rfl | rfl | rfl | rfl | ht7
   ·refine Wz [7,30] ?_
    refine Wz [30,97,6,16,97,6,24,6,16,10,6,16,85,6,8,6,24,8,2,47,7,142,16,150,24,2,46,36,115,134,105,1] ?_
    refine Xb J (fun h8 => ?_) (fun h8 => ?_)
    ·have h8 : sa = true := h8
     subst h8
     refine Wz [62,83,83,121,63,25] ?_
     exact Xn J J (X6 [] (by decide) J J (Xj (hbad (hcn.trans (by simp [tileM]))).symm))
    ·have h8 : sa = false := h8
     subst h8
     refine Wz [68,49,0,115,134,125,74,124,0,0,91] ?_;refine zx (Qt.grdF J J J (.hit .stop) (fun hgrd => Qw (b := true) J J J J (by decide))) J ?_;refine Wz [43,51,50] ?_
     exact ⟨w - (c + 1),by omega,(fun (c : Nat) (u : Seen × Bool) => (⟨_,[(1,.o (.c (.ptr 0 0))),(3,I w),(4,B u.2),(5,.o (.c (.sb 1 4 1))),(6,I k),(7,I c)],[.box [.rd [] (sl rows)],.box [vb u.1.1,vb u.1.2.1,vb u.1.2.2.1,vb u.1.2.2.2]]⟩ : St)) (c + 1) (((true,sb,sc,sd),true)),⟨c + 1,((true,sb,sc,sd),true),by omega,hcn.trans (by simp [tileM]),J⟩,X8 [0,1] (by decide) J (by kernel_rfl) (.c J (.c J (.cons (Xj (by simp)) (.c J (.c J (.c J (.nil)))))))⟩
   ·refine Wz [7,30] ?_
    refine Wz [30,97,6,16,97,6,24,6,16,10,6,16,85,6,8,6,24,8,2,47,7,142,16,150,24,2,46,36,115,134,105,1] ?_
    refine Xb J (fun h8 => ?_) (fun h8 => ?_)
    ·have h8 : sb = true := h8
     subst h8
     refine Wz [62,83,83,121,63,25] ?_
     exact Xn J J (X6 [] (by decide) J J (Xj (hbad (hcn.trans (by simp [tileM]))).symm))
    ·have h8 : sb = false := h8
     subst h8
     refine Wz [68,49,0,115,134,125,74,124,0,0,91] ?_;refine zx (Qt.grdF J J J (.hit .stop) (fun hgrd => Qw (b := true) J J J J (by decide))) J ?_;refine Wz [43,51,50] ?_
     exact ⟨w - (c + 1),by omega,(fun (c : Nat) (u : Seen × Bool) => (⟨_,[(1,.o (.c (.ptr 0 0))),(3,I w),(4,B u.2),(5,.o (.c (.sb 1 4 1))),(6,I k),(7,I c)],[.box [.rd [] (sl rows)],.box [vb u.1.1,vb u.1.2.1,vb u.1.2.2.1,vb u.1.2.2.2]]⟩ : St)) (c + 1) (((sa,true,sc,sd),true)),⟨c + 1,((sa,true,sc,sd),true),by omega,hcn.trans (by simp [tileM]),J⟩,X8 [0,1] (by decide) J (by kernel_rfl) (.c J (.c J (.cons (Xj (by simp)) (.c J (.c J (.c J (.nil)))))))⟩
   ·refine Wz [7,30] ?_
    refine Wz [30,97,6,16,97,6,24,6,16,10,6,16,85,6,8,6,24,8,2,47,7,142,16,150,24,2,46,36,115,134,105,1] ?_
    refine Xb J (fun h8 => ?_) (fun h8 => ?_)
    ·have h8 : sc = true := h8
     subst h8
     refine Wz [62,83,83,121,63,25] ?_
     exact Xn J J (X6 [] (by decide) J J (Xj (hbad (hcn.trans (by simp [tileM]))).symm))
    ·have h8 : sc = false := h8
     subst h8
     refine Wz [68,49,0,115,134,125,74,124,0,0,91] ?_;refine zx (Qt.grdF J J J (.hit .stop) (fun hgrd => Qw (b := true) J J J J (by decide))) J ?_;refine Wz [43,51,50] ?_
     exact ⟨w - (c + 1),by omega,(fun (c : Nat) (u : Seen × Bool) => (⟨_,[(1,.o (.c (.ptr 0 0))),(3,I w),(4,B u.2),(5,.o (.c (.sb 1 4 1))),(6,I k),(7,I c)],[.box [.rd [] (sl rows)],.box [vb u.1.1,vb u.1.2.1,vb u.1.2.2.1,vb u.1.2.2.2]]⟩ : St)) (c + 1) (((sa,sb,true,sd),true)),⟨c + 1,((sa,sb,true,sd),true),by omega,hcn.trans (by simp [tileM]),J⟩,X8 [0,1] (by decide) J (by kernel_rfl) (.c J (.c J (.cons (Xj (by simp)) (.c J (.c J (.c J (.nil)))))))⟩
   ·refine Wz [7,30] ?_
    refine Wz [30,97,6,16,97,6,24,6,16,10,6,16,85,6,8,6,24,8,2,47,7,142,16,150,24,2,46,36,115,134,105,1] ?_
    refine Xb J (fun h8 => ?_) (fun h8 => ?_)
    ·have h8 : sd = true := h8
     subst h8
     refine Wz [62,83,83,121,63,25] ?_
     exact Xn J J (X6 [] (by decide) J J (Xj (hbad (hcn.trans (by simp [tileM]))).symm))
    ·have h8 : sd = false := h8
     subst h8
     refine Wz [68,49,0,115,134,125,74,124,0,0,91] ?_;refine zx (Qt.grdF J J J (.hit .stop) (fun hgrd => Qw (b := true) J J J J (by decide))) J ?_;refine Wz [43,51,50] ?_
     exact ⟨w - (c + 1),by omega,(fun (c : Nat) (u : Seen × Bool) => (⟨_,[(1,.o (.c (.ptr 0 0))),(3,I w),(4,B u.2),(5,.o (.c (.sb 1 4 1))),(6,I k),(7,I c)],[.box [.rd [] (sl rows)],.box [vb u.1.1,vb u.1.2.1,vb u.1.2.2.1,vb u.1.2.2.2]]⟩ : St)) (c + 1) (((sa,sb,sc,true),true)),⟨c + 1,((sa,sb,sc,true),true),by omega,hcn.trans (by simp [tileM]),J⟩,X8 [0,1] (by decide) J (by kernel_rfl) (.c J (.c J (.cons (Xj (by simp)) (.c J (.c J (.c J (.nil)))))))⟩
   ·refine Wz [7,30] ?_
    refine Wz [30,69,6,44,6,8,6,44,84,82,82,84,6,8,8,2,47,7,142,16,130,24,2,47,96,124,0,0,91] ?_;refine zx (Qt.grdF J J J (.hit .stop) (fun hgrd => Qw (b := true) J J J J (by decide))) J ?_;refine Wz [43,51,50] ?_
    exact ⟨w - (c + 1),by omega,(fun (c : Nat) (u : Seen × Bool) => (⟨_,[(1,.o (.c (.ptr 0 0))),(3,I w),(4,B u.2),(5,.o (.c (.sb 1 4 1))),(6,I k),(7,I c)],[.box [.rd [] (sl rows)],.box [vb u.1.1,vb u.1.2.1,vb u.1.2.2.1,vb u.1.2.2.2]]⟩ : St)) (c + 1) (((sa,sb,sc,sd),true)),⟨c + 1,((sa,sb,sc,sd),true),by omega,hcn.trans (by simp [tileM]),J⟩,X8 [0,1] (by decide) J (by kernel_rfl) (.c J (.c J (.cons (Xj (by simp)) (.c J (.c J (.c J (.nil)))))))⟩
   ·refine Wz [7,30] ?_
    refine Wz [30,97,6,16,69,6,24,6,44,84,82,82,84,6,8,8,2,47,7,95,44,8,2,47,96,124,0,0,91] ?_;refine zx (Qt.grdF J J J (.hit .stop) (fun hgrd => Qw (b := true) J J J J (by decide))) J ?_;refine Wz [43,51,50] ?_
    exact ⟨w - (c + 1),by omega,(fun (c : Nat) (u : Seen × Bool) => (⟨_,[(1,.o (.c (.ptr 0 0))),(3,I w),(4,B u.2),(5,.o (.c (.sb 1 4 1))),(6,I k),(7,I c)],[.box [.rd [] (sl rows)],.box [vb u.1.1,vb u.1.2.1,vb u.1.2.2.1,vb u.1.2.2.2]]⟩ : St)) (c + 1) (((sa,sb,sc,sd),true)),⟨c + 1,((sa,sb,sc,sd),true),by omega,hcn.trans (by simp [tileM]),J⟩,X8 [0,1] (by decide) J (by kernel_rfl) (.c J (.c J (.cons (Xj (by simp)) (.c J (.c J (.c J (.nil)))))))⟩
   ·refine Wz [7,30] ?_
    refine Wz [30,114,6,0,129] ?_;refine zx (Qt.grdT J J J (.hit .stop) (fun hgrd => Zz J J J J)) J ?_;refine Wz [6,76,6,0,129] ?_;refine zx (Qt.grdT J J J (.hit .stop) (fun hgrd => Zx J J J J)) J ?_;refine zx (Qt.grdT J J J (.hit (.hit .stop)) (fun hgrd => Qa J J J)) J ?_;refine zx (Qt.grd2F J J J (.hit1 (.hit1 (.hit1 .stop))) (fun hgrd hgrd2 => Qa J J J)) J ?_;refine zx (Qt.grd2F J J J (.hit (.hit1 (.hit1 (.hit1 .stop)))) (fun hgrd hgrd2 => q_gtr J J J J)) J ?_;refine zx (Qt.grdT J J J (.part (.part (.hit (.hit (.hit .stop))))) (fun hgrd => Z0 J J J J)) J ?_;refine Wz [6,76,8,2] ?_
    refine Xb J (fun h8 => ?_) (fun h8 => ?_)
    ·refine Wz [62,133,83,166] ?_
     refine Wz [83,63,25] ?_
     exact Xn J J (X6 [] (by decide) J J (Xj (hbad (hcn.trans (by simp [tileM,ht7]))).symm))
    ·simp only [Bool.and_eq_false_iff,Bool.or_eq_false_iff,Bool.false_or,decide_eq_false_iff_not,Classical.not_not] at h8
     omega
  ·have h5 : c = w := by have := of_decide_eq_false h5; omega
   rw [h5] at hp_D
   rw [hp_D] at hrn
   refine Wz [136,50] ?_
   exact ⟨rows.length - (k + 1),by omega,_,⟨k + 1,u,by omega,⟨hrn,fun _ => h1⟩,J⟩,X7 [0,1] (by kernel_rfl)⟩
 ·have h3 : ¬ ((k : Int) < (els rows).length) := of_decide_eq_false h
  have hk : k = rows.length := by omega
  subst hk
  refine Wz [32,7,34] ?_
  exact Xn J J (X6 [] (by decide) J J (Xj (by
   unfold levelOk
   rw [hw,hp_A.1]
   have h1 := hp_A.2 (by omega)
   have : 3 ≤ rows.length ∧ rows.length ≤ 12 ∧ 4 ≤ w ∧ w ≤ 20 := by omega
   simp [this])))
end
section
open Go.RowKit
end
section
open Go.RowKit

inductive Den1 : V1 → V1 → Prop
 | same (x : V1) : Den1 x x
 | nil (qs : List Nat) (k : Nat) : Den1 (.rd qs (.v (.slice none 0 0))) (.rd qs (.sl k []))
inductive DenL : List V1 → List V1 → Prop
 | nil : DenL [] []
 | cons {x y : V1} {xs ys : List V1} (h : Den1 x y) (t : DenL xs ys) : DenL (x :: xs) (y :: ys)
inductive Den2 : V2 → V2 → Prop
 | same (x : V2) : Den2 x x
 | ag {xs ys : List V1} (h : DenL xs ys) : Den2 (.ag xs) (.ag ys)
inductive DenA : List V2 → List V2 → Prop
 | nil : DenA [] []
 | cons {x y : V2} {xs ys : List V2} (h : Den2 x y) (t : DenA xs ys) : DenA (x :: xs) (y :: ys)
section
variable {w : World} {H : Hs} {F : Nat → Prop}
theorem Den1.r {x y : V1} (h : Den1 x y) {v : Value} (hx : R1 w H F x v) : R1 w H F y v := by
 cases h with
 | same => exact hx
 | nil qs k => obtain ⟨rfl,_⟩ := RO.plain hx; exact .nil _ _ _ (by simp)
theorem DenL.r : ∀ {xs ys : List V1},DenL xs ys → xs.length = ys.length ∧ ∀ (i : Nat) (y : V1),ys[i]? = some y → ∃ x,xs[i]? = some x ∧ Den1 x y
 | _,_,.nil => ⟨rfl,fun i y h => by simp at h⟩
 | _,_,.cons (x := x) h t => by
  obtain ⟨h1,h2⟩ := DenL.r t
  refine ⟨by simp [h1],fun i y hy => ?_⟩
  cases i with
  | zero => simp at hy; subst hy; exact ⟨x,rfl,h⟩
  | succ i => simpa using h2 i y (by simpa using hy)
theorem Den2.r {x y : V2} (h : Den2 x y) {v : Value} (hx : R2 w H F x v) : R2 w H F y v := by
 cases h with
 | same => exact hx
 | ag h =>
  obtain ⟨h1,h2⟩ := h.r
  obtain ⟨us,e,hl,hr⟩ := hx
  refine ⟨us,e,by omega,fun i y u h3 h4 => ?_⟩
  obtain ⟨x,h5,h6⟩ := h2 i y h3
  exact h6.r (hr i x u h5 h4)
theorem DenA.r : ∀ {xs ys : List V2},DenA xs ys → xs.length = ys.length ∧ ∀ (i : Nat) (y : V2),ys[i]? = some y → ∃ x,xs[i]? = some x ∧ Den2 x y
 | _,_,.nil => ⟨rfl,fun i y h => by simp at h⟩
 | _,_,.cons (x := x) h t => by
  obtain ⟨h1,h2⟩ := DenA.r t
  refine ⟨by simp [h1],fun i y hy => ?_⟩
  cases i with
  | zero => simp at hy; subst hy; exact ⟨x,rfl,h⟩
  | succ i => simpa using h2 i y (by simpa using hy)
end
def nilV : V1 := .rd [] (.v (.slice none 0 0))
theorem I_copyLevel (x : TLevel) (hg : Enc.gd x) (hL : x.Rows.length ≤ 1048576) : Con Tryz.prog 76 [] [ag x] [.row 1 (els x.Rows)] (.o (.ag [.ref 0])) := by
 have hlx := Ym x.Rows
 have hg1 := hg.1
 refine Con.of Tryz.func76 J Tryz.ntmps76 J (fun E => ?_)
 refine Wz [26,18,1,5] ?_;refine M_appnil J J J J J J J J (Yn _) (els_k _) (by omega) (by omega) ?_;refine Wz [108,37,67] ?_
 exact Xl J J J J (X6 [2] (by decide) J J J)
theorem S_copyLevel (x : TLevel) (hg : Enc.gd x) (hL : x.Rows.length ≤ 1048576) : Con Tryz.prog 113 [] [ag x] [.row 1 (els x.Rows)] (.o (.ag [.ref 0])) := by
 have hlx := Ym x.Rows
 have hg1 := hg.1
 have h00 : ([] : List (List T)).length = 0 := rfl
 refine Con.of Tryz.func113 J Tryz.ntmps113 J (fun E => ?_)
 refine Wz [26,18,1,4] ?_;refine M1 (q_bslice0 J J J) J J ?_;refine Wz [17] ?_;refine M_app J J J J J J J J J J (Yn _) (els_k _) (by omega) (by omega) ?_;refine Wz [108,37,67] ?_
 exact Xl J J J J (X6 [2] (by decide) J J J)
end
section
open Go.RowKit

theorem rowsM_size {rows : List ByteArray} {w : Nat} : ∀ n s,rowsM rows w n = some s → ∀ r,r < n → ∃ row,rows[r]? = some row ∧ row.size = w
 | 0,s,_ => fun r hr => by omega
 | n + 1,s,h => fun r hr => by
  rw [rowsM] at h
  split at h
  ·cases h
  ·rename_i s1 h1
   split at h
   ·cases h
   ·rename_i row hrow
    split at h
    ·rename_i hw
     by_cases e : r = n
     ·subst e; exact ⟨row,hrow,hw⟩
     ·exact rowsM_size n s1 h1 r (by omega)
    ·cases h
theorem Y2 {l : TLevel} (h : levelOk l = true) : 3 ≤ l.Rows.length ∧ l.Rows.length ≤ 12 ∧ ∃ w,4 ≤ w ∧ w ≤ 20 ∧ ∀ (r : Nat) (hr : r < l.Rows.length),(l.Rows[r]).size = w := by
 unfold levelOk at h
 simp only [Bool.and_eq_true,decide_eq_true_eq] at h
 obtain ⟨⟨⟨⟨h1,h2⟩,h3⟩,h4⟩,h5⟩ := h
 refine ⟨h1,h2,widthM l.Rows,h3,h4,fun r hr => ?_⟩
 split at h5
 ·rename_i s hs
  obtain ⟨row,h6,h7⟩ := rowsM_size _ s hs r hr
  rw [List.getElem?_eq_getElem hr] at h6
  simp only [Option.some.injEq] at h6
  rw [h6]; exact h7
 ·cases h5
def sizeOf (k : Int) : Int := if k = 0 then 12 else if k = 1 then 4 else if k = 2 then 8 else 0
theorem I_SizeOf (k : Int) : Con Tryz.prog 223 [] [ai k] [] (I (sizeOf k)) := by
 by_cases h0 : k = 0
 ·have hb : decide (k = 0) = true := decide_eq_true h0
  rw [show sizeOf k = 12 by rw [sizeOf,if_pos h0]]
  refine Con.of Tryz.func223 J Tryz.ntmps223 J (fun E => ?_)
  refine Wz [11,28,1,13,4,19,2,46,62,133,25] ?_
  exact Xn J J (X6 [] (by decide) J J J)
 have hb0 : decide (k = 0) = false := decide_eq_false h0
 by_cases h1 : k = 1
 ·have hb : decide (k = 1) = true := decide_eq_true h1
  rw [show sizeOf k = 4 by rw [sizeOf,if_neg h0,if_pos h1]]
  refine Con.of Tryz.func223 J Tryz.ntmps223 J (fun E => ?_)
  refine Wz [11,28,1,13,4,19,2,47,4,19,2,46,62,133,25] ?_
  exact Xn J J (X6 [] (by decide) J J J)
 have hb1 : decide (k = 1) = false := decide_eq_false h1
 by_cases h2 : k = 2
 ·have hb : decide (k = 2) = true := decide_eq_true h2
  rw [show sizeOf k = 8 by rw [sizeOf,if_neg h0,if_neg h1,if_pos h2]]
  refine Con.of Tryz.func223 J Tryz.ntmps223 J (fun E => ?_)
  refine Wz [11,28,1,13,4,19,2,47,4,19,2,47,4,19,2,46,62,133,25] ?_
  exact Xn J J (X6 [] (by decide) J J J)
 have hb2 : decide (k = 2) = false := decide_eq_false h2
 rw [show sizeOf k = 0 by rw [sizeOf,if_neg h0,if_neg h1,if_neg h2]]
 refine Con.of Tryz.func223 J Tryz.ntmps223 J (fun E => ?_)
 refine Wz [11,28,1,13,4,19,2,47,4,19,2,47,4,19,2,47,96,90,11,67] ?_
 exact Xn J J (X6 [] (by decide) J J J)
theorem S_SizeOf (k : Int) : Con Tryz.prog 221 [] [ai k] [] (I (sizeOf k)) := by
 by_cases h0 : k = 0
 ·have hb : decide (k = 0) = true := decide_eq_true h0
  rw [show sizeOf k = 12 by rw [sizeOf,if_pos h0]]
  refine Con.of Tryz.func221 J Tryz.ntmps221 J (fun E => ?_)
  refine Wz [11,28,1,13,4,19,2,46,62,133,25] ?_
  exact Xn J J (X6 [] (by decide) J J J)
 have hb0 : decide (k = 0) = false := decide_eq_false h0
 by_cases h1 : k = 1
 ·have hb : decide (k = 1) = true := decide_eq_true h1
  rw [show sizeOf k = 4 by rw [sizeOf,if_neg h0,if_pos h1]]
  refine Con.of Tryz.func221 J Tryz.ntmps221 J (fun E => ?_)
  refine Wz [11,28,1,13,4,19,2,47,4,19,2,46,62,133,25] ?_
  exact Xn J J (X6 [] (by decide) J J J)
 have hb1 : decide (k = 1) = false := decide_eq_false h1
 by_cases h2 : k = 2
 ·have hb : decide (k = 2) = true := decide_eq_true h2
  rw [show sizeOf k = 8 by rw [sizeOf,if_neg h0,if_neg h1,if_pos h2]]
  refine Con.of Tryz.func221 J Tryz.ntmps221 J (fun E => ?_)
  refine Wz [11,28,1,13,4,19,2,47,4,19,2,47,4,19,2,46,62,133,25] ?_
  exact Xn J J (X6 [] (by decide) J J J)
 have hb2 : decide (k = 2) = false := decide_eq_false h2
 rw [show sizeOf k = 0 by rw [sizeOf,if_neg h0,if_neg h1,if_neg h2]]
 refine Con.of Tryz.func221 J Tryz.ntmps221 J (fun E => ?_)
 refine Wz [11,28,1,13,4,19,2,47,4,19,2,47,4,19,2,47,96,90,11,67] ?_
 exact Xn J J (X6 [] (by decide) J J J)
def wallAt (l : TLevel) (r c : Int) : Prop := ∀ (q : Nat) (hq : q < l.Rows.length),r = q → 0 ≤ c → c < (l.Rows[q]).size → byteAt (l.Rows[q]) c.toNat = 35
def hits (l : TLevel) (x y s : Int) : Prop := ∃ r c : Int,y / 16 ≤ r ∧ r ≤ (y + s - 1) / 16 ∧ x / 16 ≤ c ∧ c ≤ (x + s - 1) / 16 ∧ wallAt l r c
noncomputable def solidM (l : TLevel) (x y s : Int) : Bool := @decide (hits l x y s) (Classical.propDecidable _)
theorem Ka {l : TLevel} {x y s : Int} (h : hits l x y s) : solidM l x y s = true := @decide_eq_true _ (Classical.propDecidable _) h
theorem solidM_F {l : TLevel} {x y s : Int} (h : ¬ hits l x y s) : solidM l x y s = false := @decide_eq_false _ (Classical.propDecidable _) h
theorem wall_tile {l : TLevel} {r c : Nat} (hr : r < l.Rows.length) (h : byteAt (l.Rows[r]) c = 35) : wallAt l r c := fun q hq e h0 h1 => by
 have : q = r := by omega
 subst this
 exact h
theorem no_wall {l : TLevel} {r c : Nat} (hr : r < l.Rows.length) (hc : c < (l.Rows[r]).size) (h : byteAt (l.Rows[r]) c ≠ 35) : ¬ wallAt l r c := fun hw => h (hw r hr rfl (by omega) (by omega))
theorem out_hits {l : TLevel} {x y s : Int} {w : Nat} (hw : ∀ (r : Nat) (hr : r < l.Rows.length),(l.Rows[r]).size = w) (h1 : 1 ≤ s) (h : x < 0 ∨ y < 0 ∨ (w : Int) * 16 - s < x ∨ (l.Rows.length : Int) * 16 - s < y) : hits l x y s := by
 by_cases hx : x < 0
 ·exact ⟨y / 16,x / 16,by omega,by omega,by omega,by omega,fun q hq e h0 h1 => by omega⟩
 by_cases hy : y < 0
 ·exact ⟨y / 16,x / 16,by omega,by omega,by omega,by omega,fun q hq e h0 h1 => by omega⟩
 by_cases hx2 : (w : Int) * 16 - s < x
 ·exact ⟨y / 16,(x + s - 1) / 16,by omega,by omega,by omega,by omega,fun q hq e h0 h1 => by have := hw q hq; omega⟩
 ·exact ⟨(y + s - 1) / 16,x / 16,by omega,by omega,by omega,by omega,fun q hq e h0 h1 => by omega⟩
def freeR (l : TLevel) (x s : Int) (a b : Int) : Prop := ∀ r c : Int,a ≤ r → r < b → x / 16 ≤ c → c ≤ (x + s - 1) / 16 → ¬ wallAt l r c
def freeC (l : TLevel) (r : Int) (a b : Int) : Prop := ∀ c : Int,a ≤ c → c < b → ¬ wallAt l r c
theorem free_all {l : TLevel} {x y s b : Int} (h : freeR l x s (y / 16) b) (hb : (y + s - 1) / 16 < b) : ¬ hits l x y s := fun ⟨r,c,h1,h2,h3,h4,h5⟩ => h r c h1 (by omega) h3 h4 h5
theorem free_row {l : TLevel} {x s a b e : Int} (h : freeR l x s a b) (hc : freeC l b (x / 16) e) (he : (x + s - 1) / 16 < e) : freeR l x s a (b + 1) := fun r c h1 h2 h3 h4 => by
 by_cases hr : r < b
 ·exact h r c h1 hr h3 h4
 ·have : r = b := by omega
  subst this
  exact hc c h3 (by omega)
theorem free_col {l : TLevel} {r a b : Int} (h : freeC l r a b) (hn : ¬ wallAt l r b) : freeC l r a (b + 1) := fun c h1 h2 => by
 by_cases hc : c < b
 ·exact h c h1 hc
 ·have : c = b := by omega
  subst this
  exact hn
theorem I_solid (l : TLevel) (x y s : Int) (hl : levelOk l = true) (hx : I64 x) (hy : I64 y) (h1 : 1 ≤ s) (h16 : s ≤ 16) : Con Tryz.prog 241 [] [ag l,ai x,ai y,ai s] [] (B (solidM l x y s)) := by
 obtain ⟨hx1,hx2⟩ := hx
 obtain ⟨hy1,hy2⟩ := hy
 obtain ⟨f3,f12,w,w4,w20,hw⟩ := Y2 hl
 have hlx := Ym l.Rows
 have h0 : 0 < l.Rows.length := by omega
 have hat0 : (els l.Rows)[(0 : Int).toNat]? = some (Enc.e l.Rows[0]) := Yl h0
 have hw0 := hw 0 h0
 refine Con.of Tryz.func241 J Tryz.ntmps241 J (fun E => ?_)
 refine Wz [26,2,5,61,80,92,2,5,12,92,56,48,0,91] ?_;refine zx (Qt.grdF J J J (.hit .stop) (fun hgrd => Zx J J J J)) J ?_;refine Wz [43,0,91] ?_;refine zx (Qt.grdF J J J (.hit .stop) (fun hgrd => Qa J J J)) J ?_;refine zx (Qt.grdF J J J (.hit (.hit .stop)) (fun hgrd => Qa J J J)) J ?_;refine zx (Qt.grdF J J J (.hit (.hit (.hit .stop))) (fun hgrd => Xc J J J J (by omega))) J ?_;refine zx (Qt.grdF J J J (.hit (.hit (.hit (.hit .stop)))) (fun hgrd => q_gtr J J J J)) J ?_;refine Wz [43,0,91] ?_;refine zx (Qt.grdF J J J (.hit .stop) (fun hgrd => Qa J J J)) J ?_;refine zx (Qt.grdF J J J (.hit (.hit .stop)) (fun hgrd => Qa J J J)) J ?_;refine zx (Qt.grdF J J J (.hit (.hit (.hit .stop))) (fun hgrd => Xc J J J J (by omega))) J ?_;refine zx (Qt.grdF J J J (.hit (.hit (.hit (.hit .stop)))) (fun hgrd => q_gtr J J J J)) J ?_;refine Wz [43,1] ?_
 refine Xb J (fun h => ?_) (fun h => ?_)
 ·simp only [Bool.or_eq_true,decide_eq_true_eq] at h
  rw [Ka (out_hits hw h1 (by omega))]
  refine Wz [55] ?_
  exact Xn J J (X6 [] (by decide) J J J)
 simp only [Bool.or_eq_false_iff,decide_eq_false_iff_not] at h
 refine Wz [68,28,137,2,13] ?_;refine Xi (fun m__ st => ∃ (r : Nat),((y + s - 1) / 16 + 1).toNat - r = m__ ∧ (y / 16 ≤ r ∧ (r : Int) ≤ (y + s - 1) / 16 + 1 ∧ freeR l x s (y / 16) r) ∧ st = (⟨_,[(1,I x),(2,I y),(3,I s),(4,.o (.c (.ptr 0 0))),(11,I r)],[.box ((Enc.e l).map (V1.rd []))]⟩ : St)) _ ⟨(fun (r : Nat) => (⟨_,[(1,I x),(2,I y),(3,I s),(4,.o (.c (.ptr 0 0))),(11,I r)],[.box ((Enc.e l).map (V1.rd []))]⟩ : St)) ((y / 16).toNat),⟨(y / 16).toNat,J,⟨by omega,by omega,fun r c h1 h2 => by omega⟩,J⟩,X8 [0] (by decide) J (by kernel_rfl) (.c J (.c J (.c J (.c J (.cons (Xy (by omega)) (.nil))))))⟩ ?_
 rintro m_A _ ⟨r,hk_A,hp_A,rfl⟩
 obtain ⟨hr1,hr2,hfr⟩ := hp_A
 refine Wz [36,89,73,137] ?_;refine zx (q_leq J J J J) J ?_;refine Wz [1] ?_
 refine Xb J (fun h5 => ?_) (fun h5 => ?_)
 ·have h5 := of_decide_eq_true h5
  have hrl : r < l.Rows.length := by omega
  have hat := Yl hrl
  have hwr := hw r hrl
  refine Wz [52,137,2,13] ?_;refine Xi (fun m__ st => ∃ (c : Nat),((x + s - 1) / 16 + 1).toNat - c = m__ ∧ (x / 16 ≤ c ∧ (c : Int) ≤ (x + s - 1) / 16 + 1 ∧ freeC l r (x / 16) c) ∧ st = (⟨_,[(1,I x),(2,I y),(3,I s),(4,.o (.c (.ptr 0 0))),(11,I r),(12,I c)],[.box ((Enc.e l).map (V1.rd []))]⟩ : St)) _ ⟨(fun (c : Nat) => (⟨_,[(1,I x),(2,I y),(3,I s),(4,.o (.c (.ptr 0 0))),(11,I r),(12,I c)],[.box ((Enc.e l).map (V1.rd []))]⟩ : St)) ((x / 16).toNat),⟨(x / 16).toNat,J,⟨by omega,by omega,fun c h1 h2 => by omega⟩,J⟩,X8 [0] (by decide) J (by kernel_rfl) (.c J (.c J (.c J (.c J (.c J (.cons (Xy (by omega)) (.nil)))))))⟩ ?_
  rintro m_B _ ⟨c,hk_B,hp_B,rfl⟩
  obtain ⟨hc1,hc2,hfc⟩ := hp_B
  refine Wz [36,89,73,137] ?_;refine zx (q_leq J J J J) J ?_;refine Wz [1] ?_
  refine Xb J (fun h6 => ?_) (fun h6 => ?_)
  ·have h6 := of_decide_eq_true h6
   refine Wz [29,5,0,61,0,106,148,1] ?_
   refine Xb J (fun h7 => ?_) (fun h7 => ?_)
   ·have h7 := of_decide_eq_true h7
    rw [Ka ⟨(r : Int),(c : Int),hr1,by omega,hc1,by omega,wall_tile hrl h7⟩]
    refine Wz [62,63,63,25] ?_
    exact Xn J J (X6 [] (by decide) J J J)
   ·have h7 := of_decide_eq_false h7
    refine Wz [96,50] ?_
    refine ⟨_,(by omega),_,⟨c + 1,J,⟨by omega,by omega,free_col hfc (no_wall hrl (by omega) h7)⟩,J⟩,X7 [0] (by kernel_rfl)⟩
  ·have h6 := of_decide_eq_false h6
   refine Wz [136,50] ?_
   refine ⟨_,(by omega),_,⟨r + 1,J,⟨by omega,by omega,free_row hfr hfc (by omega)⟩,J⟩,X7 [0] (by kernel_rfl)⟩
 ·have h5 := of_decide_eq_false h5
  rw [solidM_F (free_all hfr (by omega))]
  refine Wz [32,11,67] ?_
  exact Xn J J (X6 [] (by decide) J J J)
theorem S_l02Solid (l : TLevel) (x y s : Int) (hl : levelOk l = true) (hx : I64 x) (hy : I64 y) (h1 : 1 ≤ s) (h16 : s ≤ 16) : Con Tryz.prog 220 [] [ag l,ai x,ai y,ai s] [] (B (solidM l x y s)) := by
 obtain ⟨hx1,hx2⟩ := hx
 obtain ⟨hy1,hy2⟩ := hy
 obtain ⟨f3,f12,w,w4,w20,hw⟩ := Y2 hl
 have hlx := Ym l.Rows
 refine Con.of Tryz.func220 J Tryz.ntmps220 J (fun E => ?_)
 refine Wz [26,56] ?_;refine zx (Qj J J (S_in x 0 1000) J) J ?_;refine Wz [14,0,91] ?_;refine zx (Qt.grdF J J J (.hit .stop) (fun hgrd => Qj J J (S_in y 0 1000) J)) J ?_;refine zx (Qt.grdF J J J (.hit (.hit .stop)) (fun hgrd => Q4 J J J)) J ?_;refine Wz [43,1] ?_
 refine Xb J (fun h => ?_) (fun h => ?_)
 ·have h : ¬ (0 ≤ x ∧ x ≤ 1000) ∨ ¬ (0 ≤ y ∧ y ≤ 1000) := by
   rw [← Y0,← Y0]
   simpa using h
  rw [Ka (out_hits hw h1 (by omega))]
  refine Wz [55] ?_
  exact Xn J J (X6 [] (by decide) J J J)
 have h : (0 ≤ x ∧ x ≤ 1000) ∧ (0 ≤ y ∧ y ≤ 1000) := by
  rw [← Y0,← Y0]
  simpa using h
 refine Wz [68,28,137,2,13] ?_;refine Xi (fun m__ st => ∃ (r : Nat),((y + s - 1) / 16 + 1).toNat - r = m__ ∧ (y / 16 ≤ r ∧ (r : Int) ≤ (y + s - 1) / 16 + 1 ∧ freeR l x s (y / 16) r) ∧ st = (⟨_,[(1,I x),(2,I y),(3,I s),(4,.o (.c (.ptr 0 0))),(9,I r)],[.box ((Enc.e l).map (V1.rd []))]⟩ : St)) _ ⟨(fun (r : Nat) => (⟨_,[(1,I x),(2,I y),(3,I s),(4,.o (.c (.ptr 0 0))),(9,I r)],[.box ((Enc.e l).map (V1.rd []))]⟩ : St)) ((y / 16).toNat),⟨(y / 16).toNat,J,⟨by omega,by omega,fun r c h1 h2 => by omega⟩,J⟩,X8 [0] (by decide) J (by kernel_rfl) (.c J (.c J (.c J (.c J (.cons (Xy (by omega)) (.nil))))))⟩ ?_
 rintro m_A _ ⟨r,hk_A,hp_A,rfl⟩
 obtain ⟨hr1,hr2,hfr⟩ := hp_A
 refine Wz [36,89,73,137] ?_;refine zx (q_leq J J J J) J ?_;refine Wz [1] ?_
 refine Xb J (fun h5 => ?_) (fun h5 => ?_)
 ·have h5 := of_decide_eq_true h5
  refine Wz [52,137,2,13] ?_;refine Xi (fun m__ st => ∃ (c : Nat),((x + s - 1) / 16 + 1).toNat - c = m__ ∧ (x / 16 ≤ c ∧ (c : Int) ≤ (x + s - 1) / 16 + 1 ∧ freeC l r (x / 16) c) ∧ st = (⟨_,[(1,I x),(2,I y),(3,I s),(4,.o (.c (.ptr 0 0))),(9,I r),(10,I c)],[.box ((Enc.e l).map (V1.rd []))]⟩ : St)) _ ⟨(fun (c : Nat) => (⟨_,[(1,I x),(2,I y),(3,I s),(4,.o (.c (.ptr 0 0))),(9,I r),(10,I c)],[.box ((Enc.e l).map (V1.rd []))]⟩ : St)) ((x / 16).toNat),⟨(x / 16).toNat,J,⟨by omega,by omega,fun c h1 h2 => by omega⟩,J⟩,X8 [0] (by decide) J (by kernel_rfl) (.c J (.c J (.c J (.c J (.c J (.cons (Xy (by omega)) (.nil)))))))⟩ ?_
  rintro m_B _ ⟨c,hk_B,hp_B,rfl⟩
  obtain ⟨hc1,hc2,hfc⟩ := hp_B
  refine Wz [36,89,73,137] ?_;refine zx (q_leq J J J J) J ?_;refine Wz [1] ?_
  refine Xb J (fun h6 => ?_) (fun h6 => ?_)
  ·have h6 := of_decide_eq_true h6
   by_cases hrl : r < l.Rows.length
   ·have hat := Yl hrl
    have hb : decide (((els l.Rows).length : Int) ≤ r) = false := decide_eq_false (by omega)
    by_cases hcl : c < (l.Rows[r]).size
    ·have hb2 : decide (((l.Rows[r]).size : Int) ≤ c) = false := decide_eq_false (by omega)
     by_cases h7 : byteAt (l.Rows[r]) c = 35
     ·have hb3 : decide (byteAt (l.Rows[r]) (c : Int).toNat = 35) = true := decide_eq_true h7
      rw [Ka ⟨(r : Int),(c : Int),hr1,by omega,hc1,by omega,wall_tile hrl h7⟩]
      refine Wz [52,17,12,95,16,116,30,77,6,117,6,80,6,95,8,57,30,77,6,117,6,30,141,6] ?_;refine zx (Qv (b := true) J J J J (by decide)) J ?_;refine Wz [8,9,62,63,63,25] ?_
      exact Xn J J (X6 [] (by decide) J J J)
     ·have hb3 : decide (byteAt (l.Rows[r]) (c : Int).toNat = 35) = false := decide_eq_false h7
      refine Wz [52,17,12,95,16,116,30,77,6,117,6,80,6,95,8,57,30,77,6,117,6,30,106,6,19,8,45,50] ?_
      refine ⟨_,(by omega),_,⟨c + 1,J,⟨by omega,by omega,free_col hfc (no_wall hrl hcl h7)⟩,J⟩,X7 [0] (by kernel_rfl)⟩
    ·have hb2 : decide (((l.Rows[r]).size : Int) ≤ c) = true := decide_eq_true (by omega)
     rw [Ka ⟨(r : Int),(c : Int),hr1,by omega,hc1,by omega,fun q hq e g0 g1 => by have : q = r := (by omega); subst this; omega⟩]
     refine Wz [52,17,12,95,16,116,30,77,6,117,6,80,6,95,8,44,53,53,53,24,9,62,63,63,25] ?_
     exact Xn J J (X6 [] (by decide) J J J)
   ·have hb : decide (((els l.Rows).length : Int) ≤ r) = true := decide_eq_true (by omega)
    rw [Ka ⟨(r : Int),(c : Int),hr1,by omega,hc1,by omega,fun q hq e g0 g1 => by omega⟩]
    refine Wz [52,17,12,95,44,53,53,53,24,44,53,53,53,24,9,62,63,63,25] ?_
    exact Xn J J (X6 [] (by decide) J J J)
  ·have h6 := of_decide_eq_false h6
   refine Wz [136,50] ?_
   refine ⟨_,(by omega),_,⟨r + 1,J,⟨by omega,by omega,free_row hfr hfc (by omega)⟩,J⟩,X7 [0] (by kernel_rfl)⟩
 ·have h5 := of_decide_eq_false h5
  rw [solidM_F (free_all hfr (by omega))]
  refine Wz [32,11,67] ?_
  exact Xn J J (X6 [] (by decide) J J J)
noncomputable def solidAt (l : TLevel) (x y s : Int) : Bool := (!inR s 1 16 || !levelOk l) || solidM l x y s
theorem I_SolidAt (l : TLevel) (x y s : Int) (hg : Enc.gd l) (hx : I64 x) (hy : I64 y) : Con Tryz.prog 222 [] [ag l,ai x,ai y,ai s] [] (B (solidAt l x y s)) := by
 have hc := Xr l hg
 by_cases hs : ¬ (1 ≤ s ∧ s ≤ 16)
 ·have hf : inR s 1 16 = false := by rw [← Bool.not_eq_true,Y0]; exact hs
  rw [show solidAt l x y s = true by rw [solidAt,hf]; rfl]
  refine Con.of Tryz.func222 J Tryz.ntmps222 J (fun E => ?_)
  refine Wz [26,56,48,0,91] ?_;refine zx (Qt.grdF J J J (.hit .stop) (fun hgrd => q_gtr J J J J)) J ?_;refine Wz [43,0] ?_;refine zx (Qt.grdF J J J .stop (fun hgrd => Qu J J J J J J)) J ?_;refine zx (Qt.grdF J J J (.hit .stop) (fun hgrd => Qj J J (hc) J)) J ?_;refine zx (Qt.grdF J J J (.hit (.hit .stop)) (fun hgrd => Q4 J J J)) J ?_;refine Wz [43,1] ?_
  refine Xb J (fun h => ?_) (fun h => ?_)
  ·refine Wz [55] ?_
   exact Xn J J (X6 [] (by decide) J J J)
  ·simp only [Bool.or_eq_false_iff,decide_eq_false_iff_not] at h
   omega
 have hs := Classical.not_not.1 hs
 have hb1 : decide (s < 1) = false := decide_eq_false (by omega)
 have hb2 : decide (16 < s) = false := decide_eq_false (by omega)
 cases ho : levelOk l with
 | false =>
  rw [ho] at hc
  rw [show solidAt l x y s = true by rw [solidAt,ho]; simp]
  refine Con.of Tryz.func222 J Tryz.ntmps222 J (fun E => ?_)
  refine Wz [26,56,10,16,85,8,30,27,6] ?_;refine zx (Qj J J (hc) J) J ?_;refine Wz [6,14,8,9,55] ?_
  exact Xn J J (X6 [] (by decide) J J J)
 | true =>
  rw [ho] at hc
  rw [show solidAt l x y s = solidM l x y s by rw [solidAt,ho,Y0.2 hs]; rfl]
  have hd := I_solid l x y s ho hx hy hs.1 hs.2
  refine Con.of Tryz.func222 J Tryz.ntmps222 J (fun E => ?_)
  refine Wz [26,56,10,16,85,8,30,27,6] ?_;refine zx (Qj J J (hc) J) J ?_;refine Wz [6,14,8,35,15,0,0,0] ?_;refine zx (Qj J J (hd) J) J ?_;refine Wz [34] ?_
  exact Xn J J (X6 [] (by decide) J J J)
end
end Go.Proofs.YtpmacgnmlmmojaaGreatDoor
