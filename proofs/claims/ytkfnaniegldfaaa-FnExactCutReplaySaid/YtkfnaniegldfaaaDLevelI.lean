/-
  What a valid level is: the program's LevelOk.
  Conditions: none.
-/
import Derived.Test.YtkfnaniegldfaaaDLevel
set_option linter.unusedSimpArgs false
set_option linter.unusedVariables false
namespace Go.Proofs.Ytkfnaniegldfaaa
open Go.RowKit

set_option maxHeartbeats 4000000 in
theorem I_LevelOk (x : TLevel) (hg : Enc.gd x) : Con Try.prog 94 [] [ag x] [] (B (levelOk x)) := by
  obtain ⟨rows⟩ := x
  have hn : Enc.gd rows := hg
  have hn1 := hn.1
  have hlx := els_len rows
  refine Con.of Try.func94 rfl Try.ntmps94 rfl (fun E => ?_)
  refine A_seq ?_; refine A_region ?_; refine M1 (q_boxN rfl rfl rfl rfl) rfl rfl ?_; refine M0 (q_assignC rfl rfl rfl) rfl rfl ?_; refine L_nil ?_; refine T_n ?_; refine A_seq ?_; refine A_seq ?_
  refine A_region ?_; refine M0 (q_fldp rfl rfl rfl rfl (by decide)) rfl rfl ?_; refine M0 (q_ld1 rfl rfl rfl rfl rfl) rfl rfl ?_; refine M0 (q_len rfl rfl rfl) rfl rfl ?_
  refine M0 (q_lss rfl rfl rfl rfl) rfl rfl ?_; refine M0 (q_moveC rfl rfl rfl) rfl rfl ?_
  refine M0 (Qt.grdF rfl rfl rfl .stop (fun hgrd => q_fldp rfl rfl rfl rfl (by decide))) rfl rfl ?_
  refine M0 (Qt.grdF rfl rfl rfl (.hit .stop) (fun hgrd => q_ld1 rfl rfl rfl rfl rfl)) rfl rfl ?_
  refine M0 (Qt.grdF rfl rfl rfl (.hit (.hit .stop)) (fun hgrd => q_len rfl rfl rfl)) rfl rfl ?_
  refine M0 (Qt.grdF rfl rfl rfl (.hit (.hit (.hit .stop))) (fun hgrd => q_gtr rfl rfl rfl rfl)) rfl rfl ?_; refine M0 (q_or rfl rfl rfl rfl) rfl rfl ?_; refine L_nil ?_; refine T_n ?_
  refine A_cond rfl (fun h => ?_) (fun h => ?_)
  · simp only [Bool.or_eq_true, decide_eq_true_eq] at h
    refine A_seq ?_; refine A_region ?_; refine M0 (q_assignC rfl rfl rfl) rfl rfl ?_; refine L_nil ?_; refine T_n ?_; refine A_ret ?_; refine T_r ?_; refine F_r ?_
    exact E_tmp rfl rfl (W_end [] (by decide) rfl rfl (B_eq (by simp [levelOk]; omega)))
  simp only [Bool.or_eq_false_iff, decide_eq_false_iff_not] at h
  have h0 : 0 < rows.length := by omega
  have hat0 : (els rows)[(0 : Int).toNat]? = some (Enc.e rows[0]) := els_at h0
  have hw := width_at h0
  refine A_skip ?_; refine T_n ?_; refine A_seq ?_; refine A_region ?_; refine M0 (q_fldp rfl rfl rfl rfl (by decide)) rfl rfl ?_; refine M0 (q_ld1 rfl rfl rfl rfl rfl) rfl rfl ?_
  refine M0 (q_at rfl rfl rfl rfl (by omega) (by assumption) rfl) rfl rfl ?_; refine M0 (q_lr1 rfl rfl rfl rfl) rfl rfl ?_; refine M0 (q_lens rfl rfl rfl) rfl rfl ?_
  refine M0 (q_assignC rfl rfl rfl) rfl rfl ?_; refine L_nil ?_; refine T_n ?_; refine A_seq ?_; refine A_seq ?_; refine A_region ?_; refine M0 (q_moveC rfl rfl rfl) rfl rfl ?_
  refine M0 (q_lss rfl rfl rfl rfl) rfl rfl ?_; refine M0 (q_moveC rfl rfl rfl) rfl rfl ?_; refine M0 (Qt.grdF rfl rfl rfl .stop (fun hgrd => q_moveC rfl rfl rfl)) rfl rfl ?_
  refine M0 (Qt.grdF rfl rfl rfl (.hit .stop) (fun hgrd => q_gtr rfl rfl rfl rfl)) rfl rfl ?_; refine M0 (q_or rfl rfl rfl rfl) rfl rfl ?_; refine L_nil ?_; refine T_n ?_
  refine A_cond rfl (fun h1 => ?_) (fun h1 => ?_)
  · simp only [Bool.or_eq_true, decide_eq_true_eq] at h1
    refine A_seq ?_; refine A_region ?_; refine M0 (q_assignC rfl rfl rfl) rfl rfl ?_; refine L_nil ?_; refine T_n ?_; refine A_ret ?_; refine T_r ?_; refine F_r ?_
    exact E_tmp rfl rfl (W_end [] (by decide) rfl rfl (B_eq (by simp [levelOk]; omega)))
  simp only [Bool.or_eq_false_iff, decide_eq_false_iff_not] at h1
  obtain ⟨w, hw'⟩ : ∃ w, w = rows[0].size := ⟨_, rfl⟩
  rw [← hw'] at hw h1
  refine A_skip ?_; refine T_n ?_; refine A_seq ?_; refine A_region ?_; refine M1 (q_alloc rfl rfl rfl) rfl rfl ?_; refine L_nil ?_; refine T_n ?_; refine A_seq ?_; refine A_region ?_
  refine M0 (q_assignC rfl rfl rfl) rfl rfl ?_; refine L_nil ?_; refine T_n ?_; refine A_seq ?_; refine A_seq ?_; refine A_region ?_; refine M0 (q_fldp rfl rfl rfl rfl (by decide)) rfl rfl ?_
  refine M0 (q_ld1 rfl rfl rfl rfl rfl) rfl rfl ?_; refine M0 (q_len rfl rfl rfl) rfl rfl ?_; refine M0 (q_moveC rfl rfl rfl) rfl rfl ?_; refine L_nil ?_; refine T_n ?_; refine A_block ?_
  refine A_loop (fun m st => ∃ (k : Nat) (s : Seen × Bool), k + m = rows.length ∧ (rowsM rows w k = some s) ∧ st = (fun (k : Nat) (s : Seen × Bool) => (⟨_, [(1, .o (.c (.ptr 0 0))), (3, I w), (4, .o (.c (.ptr 1 0))), (5, B s.2), (33, L rows), (34, I (els rows).length), (35, I k)], [.box [.rd [] (sl rows)], .box [vb false, vb s.1.1, vb s.1.2.1, vb s.1.2.2.1, vb s.1.2.2.2]]⟩ : St)) k s) (rows.length) ⟨(fun (k : Nat) (s : Seen × Bool) => (⟨_, [(1, .o (.c (.ptr 0 0))), (3, I w), (4, .o (.c (.ptr 1 0))), (5, B s.2), (33, L rows), (34, I (els rows).length), (35, I k)], [.box [.rd [] (sl rows)], .box [vb false, vb s.1.1, vb s.1.2.1, vb s.1.2.2.1, vb s.1.2.2.2]]⟩ : St)) 0 (((false, false, false, false), false)), W_go [0, 1] (by decide) rfl (rfl) (.cons rfl (.cons (I_eq (by omega)) (.cons rfl (.cons rfl (.cons rfl (.cons rfl (.cons rfl (.nil)))))))), 0, ((false, false, false, false), false), by omega, rfl, rfl⟩ ?_
  rintro m_A _ ⟨k, s, hk_A, hp_A, rfl⟩
  refine A_seq ?_; refine A_region ?_; refine M0 (q_lss rfl rfl rfl rfl) rfl rfl ?_; refine L_nil ?_; refine T_n ?_; refine A_seq ?_
  refine A_cond rfl (fun h => ?_) (fun h => ?_)
  · have h3 : k < rows.length := by have := of_decide_eq_true h; omega
    have hat := els_at h3
    have hgk : rows[k].size ≤ 9223372036854775807 := hn.2 _ (List.getElem_mem h3)
    refine A_skip ?_; refine T_n ?_; refine A_seq ?_; refine A_block ?_; refine A_seq ?_; refine A_region ?_; refine M0 (q_moveC rfl rfl rfl) rfl rfl ?_
    refine M0 (q_at rfl rfl rfl rfl (by omega) (by assumption) rfl) rfl rfl ?_; refine M0 (q_lr1 rfl rfl rfl rfl) rfl rfl ?_; refine M0 (q_assignC rfl rfl rfl) rfl rfl ?_
    refine M0 (q_assignC rfl rfl rfl) rfl rfl ?_; refine L_nil ?_; refine T_n ?_; refine A_seq ?_; refine A_seq ?_; refine A_region ?_; refine M0 (q_moveC rfl rfl rfl) rfl rfl ?_
    refine M0 (q_lens rfl rfl rfl) rfl rfl ?_; refine M0 (q_moveC rfl rfl rfl) rfl rfl ?_; refine M0 (q_neq rfl rfl rfl rfl) rfl rfl ?_; refine L_nil ?_; refine T_n ?_
    refine A_cond rfl (fun h4 => ?_) (fun h4 => ?_)
    · have h4 : ¬ rows[k].size = w := by have := of_decide_eq_true h4; omega
      refine A_seq ?_; refine A_region ?_; refine M0 (q_assignC rfl rfl rfl) rfl rfl ?_; refine L_nil ?_; refine T_n ?_; refine A_ret ?_; refine T_r ?_; refine B_r ?_; refine T_r ?_; refine T_r ?_
      refine B_r ?_; refine T_r ?_; refine F_r ?_
      exact E_tmp rfl rfl (W_end [] (by decide) rfl rfl (B_eq (level_no (l := ⟨rows⟩) h3 hw (rows_bad h3 h4)).symm))
    have h4 : rows[k].size = w := by have := of_decide_eq_false h4; omega
    have hrn := rows_next hp_A h3 h4
    obtain ⟨er, her⟩ : ∃ er, er = (decide (k = 0) || decide (k + 1 = rows.length)) := ⟨_, rfl⟩
    rw [← her] at hrn
    refine A_skip ?_; refine T_n ?_; refine A_seq ?_; refine A_region ?_; refine M0 (q_assignC rfl rfl rfl) rfl rfl ?_; refine L_nil ?_; refine T_n ?_; refine A_block ?_
    refine A_loop (fun m st => ∃ (c : Nat) (u : Seen × Bool), c + m = w ∧ (colsM rows[k] er w s c = some u) ∧ st = (fun (c : Nat) (u : Seen × Bool) => (⟨_, [(1, .o (.c (.ptr 0 0))), (3, I w), (4, .o (.c (.ptr 1 0))), (5, B u.2), (6, I k), (7, S rows[k]), (8, I c), (33, L rows), (34, I (els rows).length), (35, I k)], [.box [.rd [] (sl rows)], .box [vb false, vb u.1.1, vb u.1.2.1, vb u.1.2.2.1, vb u.1.2.2.2]]⟩ : St)) c u) (w) ⟨(fun (c : Nat) (u : Seen × Bool) => (⟨_, [(1, .o (.c (.ptr 0 0))), (3, I w), (4, .o (.c (.ptr 1 0))), (5, B u.2), (6, I k), (7, S rows[k]), (8, I c), (33, L rows), (34, I (els rows).length), (35, I k)], [.box [.rd [] (sl rows)], .box [vb false, vb u.1.1, vb u.1.2.1, vb u.1.2.2.1, vb u.1.2.2.2]]⟩ : St)) 0 (s), W_go [0, 1] (by decide) rfl (rfl) (.cons rfl (.cons rfl (.cons rfl (.cons rfl (.cons rfl (.cons rfl (.cons rfl (.cons rfl (.cons rfl (.cons rfl (.nil))))))))))), 0, s, by omega, rfl, rfl⟩ ?_
    rintro m_D _ ⟨c, u, hk_D, hp_D, rfl⟩
    refine A_seq ?_; refine A_seq ?_; refine A_region ?_; refine M0 (q_moveC rfl rfl rfl) rfl rfl ?_; refine M0 (q_moveC rfl rfl rfl) rfl rfl ?_; refine M0 (q_lss rfl rfl rfl rfl) rfl rfl ?_
    refine L_nil ?_; refine T_n ?_
    refine A_cond rfl (fun h5 => ?_) (fun h5 => ?_)
    · have h5 : c < w := by have := of_decide_eq_true h5; omega
      have hcn := cols_next hp_D
      obtain ⟨t, ht⟩ : ∃ t, byteAt rows[k] (c : Int).toNat = t := ⟨_, rfl⟩
      rw [show byteAt rows[k] c = t from ht] at hcn
      have htb : 0 ≤ t ∧ t ≤ 255 := ht ▸ byteAt_lt _ _
      obtain ⟨⟨sa, sb, sc, sd⟩, so⟩ := u
      obtain ⟨e, he⟩ : ∃ e, e = (er || decide (c = 0) || decide (c + 1 = w)) := ⟨_, rfl⟩
      rw [← he] at hcn
      refine A_skip ?_; refine T_n ?_; refine A_seq ?_; refine A_block ?_; refine A_seq ?_; refine A_region ?_; refine M0 (q_moveC rfl rfl rfl) rfl rfl ?_; refine M0 (q_moveC rfl rfl rfl) rfl rfl ?_
      refine M0 (q_byteK rfl rfl rfl rfl (by assumption) (by omega)) rfl rfl ?_; refine M0 (q_assignC rfl rfl rfl) rfl rfl ?_; refine L_nil ?_; refine T_n ?_; refine A_seq ?_; refine A_region ?_
      refine M0 (q_moveC rfl rfl rfl) rfl rfl ?_; refine M0 (q_eql rfl rfl rfl rfl) rfl rfl ?_; refine M0 (q_moveC rfl rfl rfl) rfl rfl ?_
      refine M0 (Qt.grdF rfl rfl rfl .stop (fun hgrd => q_moveC rfl rfl rfl)) rfl rfl ?_
      refine M0 (Qt.grdF rfl rfl rfl (.hit .stop) (fun hgrd => q_fldp rfl rfl rfl rfl (by decide))) rfl rfl ?_
      refine M0 (Qt.grdF rfl rfl rfl (.hit (.hit .stop)) (fun hgrd => q_ld1 rfl rfl rfl rfl rfl)) rfl rfl ?_
      refine M0 (Qt.grdF rfl rfl rfl (.hit (.hit (.hit .stop))) (fun hgrd => q_len rfl rfl rfl)) rfl rfl ?_
      refine M0 (Qt.grdF rfl rfl rfl (.hit (.hit (.hit (.hit .stop)))) (fun hgrd => q_sub rfl rfl rfl rfl (by omega))) rfl rfl ?_
      refine M0 (Qt.grdF rfl rfl rfl (.hit (.hit (.hit (.hit (.hit .stop))))) (fun hgrd => q_eql rfl rfl rfl rfl)) rfl rfl ?_; refine M0 (q_or rfl rfl rfl rfl) rfl rfl ?_
      refine M0 (q_moveC rfl rfl rfl) rfl rfl ?_; refine M0 (Qt.grdF rfl rfl rfl .stop (fun hgrd => q_moveC rfl rfl rfl)) rfl rfl ?_
      refine M0 (Qt.grdF rfl rfl rfl (.hit .stop) (fun hgrd => q_eql rfl rfl rfl rfl)) rfl rfl ?_; refine M0 (q_or rfl rfl rfl rfl) rfl rfl ?_; refine M0 (q_moveC rfl rfl rfl) rfl rfl ?_
      refine M0 (Qt.grdF rfl rfl rfl .stop (fun hgrd => q_moveC rfl rfl rfl)) rfl rfl ?_; refine M0 (Qt.grdF rfl rfl rfl (.hit .stop) (fun hgrd => q_moveC rfl rfl rfl)) rfl rfl ?_
      refine M0 (Qt.grdF rfl rfl rfl (.hit (.hit .stop)) (fun hgrd => q_sub rfl rfl rfl rfl (by omega))) rfl rfl ?_
      refine M0 (Qt.grdF rfl rfl rfl (.hit (.hit (.hit .stop))) (fun hgrd => q_eql rfl rfl rfl rfl)) rfl rfl ?_; refine M0 (q_or rfl rfl rfl rfl) rfl rfl ?_
      refine M0 (q_assignC rfl rfl rfl) rfl rfl ?_; refine L_nil ?_; refine T_n ?_; refine A_seq ?_; refine A_seq ?_; refine A_region ?_; refine M0 (q_moveC rfl rfl rfl) rfl rfl ?_
      refine M0 (q_moveC rfl rfl rfl) rfl rfl ?_; refine M0 (Qt.grdT rfl rfl rfl .stop (fun hgrd => q_moveC rfl rfl rfl)) rfl rfl ?_
      refine M0 (Qt.grdT rfl rfl rfl (.hit .stop) (fun hgrd => q_neq rfl rfl rfl rfl)) rfl rfl ?_; refine M0 (q_and rfl rfl rfl rfl) rfl rfl ?_; refine L_nil ?_; refine T_n ?_
      have hee : (decide ((k : Int) = 0) || decide ((k : Int) = ((els rows).length : Int) - 1) || decide ((c : Int) = 0) || decide ((c : Int) = (w : Int) - 1)) = e := by
        rw [he, her, hlx]
        have g1 : decide ((k : Int) = 0) = decide (k = 0) := by simp
        have g2 : decide ((k : Int) = (rows.length : Int) - 1) = decide (k + 1 = rows.length) := decide_eq_decide.2 (by omega)
        have g3 : decide ((c : Int) = 0) = decide (c = 0) := by simp
        have g4 : decide ((c : Int) = (w : Int) - 1) = decide (c + 1 = w) := decide_eq_decide.2 (by omega)
        rw [g1, g2, g3, g4]
      clear he her
      have hbad : colsM rows[k] er w s (c + 1) = none → levelOk ⟨rows⟩ = false := fun hc => level_no (l := ⟨rows⟩) h3 hw (hrn.trans (cols_none hc (by omega)))
      refine A_cond rfl (fun h6 => ?_) (fun h6 => ?_)
      · rw [hee] at h6
        simp only [Bool.and_eq_true, decide_eq_true_eq] at h6
        refine A_seq ?_; refine A_region ?_; refine M0 (q_assignC rfl rfl rfl) rfl rfl ?_; refine L_nil ?_; refine T_n ?_; refine A_ret ?_; refine T_r ?_; refine B_r ?_; refine T_r ?_; refine T_r ?_
        refine B_r ?_; refine B_r ?_; refine T_r ?_; refine T_r ?_; refine B_r ?_; refine T_r ?_; refine F_r ?_
        exact E_tmp rfl rfl (W_end [] (by decide) rfl rfl (B_eq (hbad (hcn.trans (by simp [tileM, h6]))).symm))
      rw [hee] at h6
      have h7 : t = 35 ∨ e = false := by
        simp only [Bool.and_eq_false_iff, decide_eq_false_iff_not, Classical.not_not] at h6
        exact h6.symm
      clear h6 hee
      refine AWP.pre (st' := (⟨_, [(1, .o (.c (.ptr 0 0))), (3, I w), (4, .o (.c (.ptr 1 0))), (5, B so), (6, I k), (7, S rows[k]), (8, I c), (9, VI .u8 t), (33, L rows), (34, I (els rows).length), (35, I k)], [.box [.rd [] (sl rows)], .box [vb false, vb sa, vb sb, vb sc, vb sd]]⟩ : St)) ?_ (W_go [0, 1] (by decide) rfl (rfl) (.cons rfl (.cons rfl (.cons rfl (.cons rfl (.cons rfl (.cons rfl (.cons rfl (.cons rfl (.cons rfl (.cons rfl (.cons rfl (.nil)))))))))))))
      rcases h7 with rfl | h7
      · refine A_skip ?_; refine T_n ?_; refine A_seq ?_; refine A_block ?_; refine A_seq ?_; refine A_region ?_; refine M0 (q_moveC rfl rfl rfl) rfl rfl ?_
        refine M0 (q_geqK (b := false) rfl rfl rfl rfl (by decide)) rfl rfl ?_; refine M0 (q_moveC rfl rfl rfl) rfl rfl ?_; refine M_no rfl rfl rfl rfl rfl rfl ?_
        refine M_no rfl rfl rfl rfl rfl rfl ?_; refine M0 (q_pickF rfl rfl rfl rfl) rfl rfl ?_; refine M0 (q_assignC rfl rfl rfl) rfl rfl ?_; refine L_nil ?_; refine T_n ?_; refine A_ifF rfl ?_
        refine A_seq ?_; refine A_region ?_; refine M0 (q_moveC rfl rfl rfl) rfl rfl ?_; refine M0 (q_neqK (b := false) rfl rfl rfl rfl (by decide)) rfl rfl ?_
        refine M0 (q_moveC rfl rfl rfl) rfl rfl ?_; refine M_no rfl rfl rfl rfl rfl rfl ?_; refine M_no rfl rfl rfl rfl rfl rfl ?_; refine M0 (q_pickF rfl rfl rfl rfl) rfl rfl ?_
        refine M0 (q_moveC rfl rfl rfl) rfl rfl ?_; refine M_no rfl rfl rfl rfl rfl rfl ?_; refine M_no rfl rfl rfl rfl rfl rfl ?_; refine M0 (q_pickF rfl rfl rfl rfl) rfl rfl ?_
        refine M0 (q_assignC rfl rfl rfl) rfl rfl ?_; refine L_nil ?_; refine T_n ?_; refine A_ifF rfl ?_; refine A_skip ?_; refine B_n ?_; refine T_n ?_; refine A_seq ?_; refine A_region ?_
        refine M0 (q_moveC rfl rfl rfl) rfl rfl ?_; refine M0 (q_neqK (b := false) rfl rfl rfl rfl (by decide)) rfl rfl ?_; refine L_nil ?_; refine T_n ?_; refine A_ifF rfl ?_; refine A_skip ?_
        refine B_n ?_; refine T_n ?_; refine A_region ?_; refine M0 (q_moveC rfl rfl rfl) rfl rfl ?_; refine M0 (q_add rfl rfl rfl rfl (by omega)) rfl rfl ?_
        refine M0 (q_assignC rfl rfl rfl) rfl rfl ?_; refine L_nil ?_; refine T_n ?_
        exact ⟨w - (c + 1), by omega, (fun (c : Nat) (u : Seen × Bool) => (⟨_, [(1, .o (.c (.ptr 0 0))), (3, I w), (4, .o (.c (.ptr 1 0))), (5, B u.2), (6, I k), (7, S rows[k]), (8, I c), (33, L rows), (34, I (els rows).length), (35, I k)], [.box [.rd [] (sl rows)], .box [vb false, vb u.1.1, vb u.1.2.1, vb u.1.2.2.1, vb u.1.2.2.2]]⟩ : St)) (c + 1) (((sa, sb, sc, sd), so)), W_go [0, 1] (by decide) rfl (rfl) (.cons rfl (.cons rfl (.cons rfl (.cons rfl (.cons rfl (.cons rfl (.cons rfl (.cons rfl (.cons rfl (.cons rfl (.nil))))))))))), c + 1, ((sa, sb, sc, sd), so), by omega, hcn.trans (by simp [tileM]), rfl⟩
      subst h7
      rcases (by omega : t = 35 ∨ t = 49 ∨ t = 50 ∨ t = 51 ∨ t = 52 ∨ t = 111 ∨ t = 46 ∨ (t ≠ 35 ∧ t ≠ 49 ∧ t ≠ 50 ∧ t ≠ 51 ∧ t ≠ 52 ∧ t ≠ 111 ∧ t ≠ 46)) with rfl | rfl | rfl | rfl | rfl | rfl | rfl | ht7
      · refine A_skip ?_; refine T_n ?_; refine A_seq ?_; refine A_block ?_; refine A_seq ?_; refine A_region ?_; refine M0 (q_moveC rfl rfl rfl) rfl rfl ?_
        refine M0 (q_geqK (b := false) rfl rfl rfl rfl (by decide)) rfl rfl ?_; refine M0 (q_moveC rfl rfl rfl) rfl rfl ?_; refine M_no rfl rfl rfl rfl rfl rfl ?_
        refine M_no rfl rfl rfl rfl rfl rfl ?_; refine M0 (q_pickF rfl rfl rfl rfl) rfl rfl ?_; refine M0 (q_assignC rfl rfl rfl) rfl rfl ?_; refine L_nil ?_; refine T_n ?_; refine A_ifF rfl ?_
        refine A_seq ?_; refine A_region ?_; refine M0 (q_moveC rfl rfl rfl) rfl rfl ?_; refine M0 (q_neqK (b := false) rfl rfl rfl rfl (by decide)) rfl rfl ?_
        refine M0 (q_moveC rfl rfl rfl) rfl rfl ?_; refine M_no rfl rfl rfl rfl rfl rfl ?_; refine M_no rfl rfl rfl rfl rfl rfl ?_; refine M0 (q_pickF rfl rfl rfl rfl) rfl rfl ?_
        refine M0 (q_moveC rfl rfl rfl) rfl rfl ?_; refine M_no rfl rfl rfl rfl rfl rfl ?_; refine M_no rfl rfl rfl rfl rfl rfl ?_; refine M0 (q_pickF rfl rfl rfl rfl) rfl rfl ?_
        refine M0 (q_assignC rfl rfl rfl) rfl rfl ?_; refine L_nil ?_; refine T_n ?_; refine A_ifF rfl ?_; refine A_skip ?_; refine B_n ?_; refine T_n ?_; refine A_seq ?_; refine A_region ?_
        refine M0 (q_moveC rfl rfl rfl) rfl rfl ?_; refine M0 (q_neqK (b := false) rfl rfl rfl rfl (by decide)) rfl rfl ?_; refine L_nil ?_; refine T_n ?_; refine A_ifF rfl ?_; refine A_skip ?_
        refine B_n ?_; refine T_n ?_; refine A_region ?_; refine M0 (q_moveC rfl rfl rfl) rfl rfl ?_; refine M0 (q_add rfl rfl rfl rfl (by omega)) rfl rfl ?_
        refine M0 (q_assignC rfl rfl rfl) rfl rfl ?_; refine L_nil ?_; refine T_n ?_
        exact ⟨w - (c + 1), by omega, (fun (c : Nat) (u : Seen × Bool) => (⟨_, [(1, .o (.c (.ptr 0 0))), (3, I w), (4, .o (.c (.ptr 1 0))), (5, B u.2), (6, I k), (7, S rows[k]), (8, I c), (33, L rows), (34, I (els rows).length), (35, I k)], [.box [.rd [] (sl rows)], .box [vb false, vb u.1.1, vb u.1.2.1, vb u.1.2.2.1, vb u.1.2.2.2]]⟩ : St)) (c + 1) (((sa, sb, sc, sd), so)), W_go [0, 1] (by decide) rfl (rfl) (.cons rfl (.cons rfl (.cons rfl (.cons rfl (.cons rfl (.cons rfl (.cons rfl (.cons rfl (.cons rfl (.cons rfl (.nil))))))))))), c + 1, ((sa, sb, sc, sd), so), by omega, hcn.trans (by simp [tileM]), rfl⟩
      · refine A_skip ?_; refine T_n ?_; refine A_seq ?_; refine A_block ?_; refine A_seq ?_; refine A_region ?_; refine M0 (q_moveC rfl rfl rfl) rfl rfl ?_
        refine M0 (q_geqK (b := true) rfl rfl rfl rfl (by decide)) rfl rfl ?_; refine M0 (q_moveC rfl rfl rfl) rfl rfl ?_; refine M_yes rfl rfl rfl ?_; refine M0 (q_moveC rfl rfl rfl) rfl rfl ?_
        refine M_yes rfl rfl rfl ?_; refine M0 (q_leqK (b := true) rfl rfl rfl rfl (by decide)) rfl rfl ?_; refine M0 (q_pickT rfl rfl rfl rfl) rfl rfl ?_
        refine M0 (q_assignC rfl rfl rfl) rfl rfl ?_; refine L_nil ?_; refine T_n ?_; refine A_ifT rfl ?_; refine A_seq ?_; refine A_seq ?_; refine A_region ?_
        refine M0 (q_moveC rfl rfl rfl) rfl rfl ?_; refine M0 (q_sub8 rfl rfl rfl rfl (by omega)) rfl rfl ?_; refine M0 (q_aidx rfl rfl rfl rfl (by omega)) rfl rfl ?_
        refine M0 (q_ld1 rfl rfl rfl rfl rfl) rfl rfl ?_; refine L_nil ?_; refine T_n ?_
        refine A_cond rfl (fun h8 => ?_) (fun h8 => ?_)
        · have h8 : sa = true := h8
          subst h8
          refine A_seq ?_; refine A_region ?_; refine M0 (q_assignC rfl rfl rfl) rfl rfl ?_; refine L_nil ?_; refine T_n ?_; refine A_ret ?_; refine T_r ?_; refine B_r ?_; refine T_r ?_; refine B_r ?_
          refine T_r ?_; refine T_r ?_; refine B_r ?_; refine B_r ?_; refine T_r ?_; refine T_r ?_; refine B_r ?_; refine T_r ?_; refine F_r ?_
          exact E_tmp rfl rfl (W_end [] (by decide) rfl rfl (B_eq (hbad (hcn.trans (by simp [tileM]))).symm))
        · have h8 : sa = false := h8
          subst h8
          refine A_skip ?_; refine T_n ?_; refine A_region ?_; refine M0 (q_moveC rfl rfl rfl) rfl rfl ?_; refine M0 (q_sub8 rfl rfl rfl rfl (by omega)) rfl rfl ?_
          refine M0 (q_aidx rfl rfl rfl rfl (by omega)) rfl rfl ?_; refine M_st1 rfl rfl rfl rfl rfl rfl rfl rfl ?_; refine L_nil ?_; refine B_n ?_; refine T_n ?_; refine A_seq ?_; refine A_region ?_
          refine M0 (q_moveC rfl rfl rfl) rfl rfl ?_; refine M0 (q_neqK (b := true) rfl rfl rfl rfl (by decide)) rfl rfl ?_; refine L_nil ?_; refine T_n ?_; refine A_ifT rfl ?_; refine A_region ?_
          refine M0 (q_assignC rfl rfl rfl) rfl rfl ?_; refine L_nil ?_; refine B_n ?_; refine T_n ?_; refine A_region ?_; refine M0 (q_moveC rfl rfl rfl) rfl rfl ?_
          refine M0 (q_add rfl rfl rfl rfl (by omega)) rfl rfl ?_; refine M0 (q_assignC rfl rfl rfl) rfl rfl ?_; refine L_nil ?_; refine T_n ?_
          exact ⟨w - (c + 1), by omega, (fun (c : Nat) (u : Seen × Bool) => (⟨_, [(1, .o (.c (.ptr 0 0))), (3, I w), (4, .o (.c (.ptr 1 0))), (5, B u.2), (6, I k), (7, S rows[k]), (8, I c), (33, L rows), (34, I (els rows).length), (35, I k)], [.box [.rd [] (sl rows)], .box [vb false, vb u.1.1, vb u.1.2.1, vb u.1.2.2.1, vb u.1.2.2.2]]⟩ : St)) (c + 1) (((true, sb, sc, sd), true)), W_go [0, 1] (by decide) rfl (rfl) (.cons rfl (.cons rfl (.cons rfl (.cons rfl (.cons rfl (.cons rfl (.cons rfl (.cons rfl (.cons rfl (.cons rfl (.nil))))))))))), c + 1, ((true, sb, sc, sd), true), by omega, hcn.trans (by simp [tileM]), rfl⟩
      · refine A_skip ?_; refine T_n ?_; refine A_seq ?_; refine A_block ?_; refine A_seq ?_; refine A_region ?_; refine M0 (q_moveC rfl rfl rfl) rfl rfl ?_
        refine M0 (q_geqK (b := true) rfl rfl rfl rfl (by decide)) rfl rfl ?_; refine M0 (q_moveC rfl rfl rfl) rfl rfl ?_; refine M_yes rfl rfl rfl ?_; refine M0 (q_moveC rfl rfl rfl) rfl rfl ?_
        refine M_yes rfl rfl rfl ?_; refine M0 (q_leqK (b := true) rfl rfl rfl rfl (by decide)) rfl rfl ?_; refine M0 (q_pickT rfl rfl rfl rfl) rfl rfl ?_
        refine M0 (q_assignC rfl rfl rfl) rfl rfl ?_; refine L_nil ?_; refine T_n ?_; refine A_ifT rfl ?_; refine A_seq ?_; refine A_seq ?_; refine A_region ?_
        refine M0 (q_moveC rfl rfl rfl) rfl rfl ?_; refine M0 (q_sub8 rfl rfl rfl rfl (by omega)) rfl rfl ?_; refine M0 (q_aidx rfl rfl rfl rfl (by omega)) rfl rfl ?_
        refine M0 (q_ld1 rfl rfl rfl rfl rfl) rfl rfl ?_; refine L_nil ?_; refine T_n ?_
        refine A_cond rfl (fun h8 => ?_) (fun h8 => ?_)
        · have h8 : sb = true := h8
          subst h8
          refine A_seq ?_; refine A_region ?_; refine M0 (q_assignC rfl rfl rfl) rfl rfl ?_; refine L_nil ?_; refine T_n ?_; refine A_ret ?_; refine T_r ?_; refine B_r ?_; refine T_r ?_; refine B_r ?_
          refine T_r ?_; refine T_r ?_; refine B_r ?_; refine B_r ?_; refine T_r ?_; refine T_r ?_; refine B_r ?_; refine T_r ?_; refine F_r ?_
          exact E_tmp rfl rfl (W_end [] (by decide) rfl rfl (B_eq (hbad (hcn.trans (by simp [tileM]))).symm))
        · have h8 : sb = false := h8
          subst h8
          refine A_skip ?_; refine T_n ?_; refine A_region ?_; refine M0 (q_moveC rfl rfl rfl) rfl rfl ?_; refine M0 (q_sub8 rfl rfl rfl rfl (by omega)) rfl rfl ?_
          refine M0 (q_aidx rfl rfl rfl rfl (by omega)) rfl rfl ?_; refine M_st1 rfl rfl rfl rfl rfl rfl rfl rfl ?_; refine L_nil ?_; refine B_n ?_; refine T_n ?_; refine A_seq ?_; refine A_region ?_
          refine M0 (q_moveC rfl rfl rfl) rfl rfl ?_; refine M0 (q_neqK (b := true) rfl rfl rfl rfl (by decide)) rfl rfl ?_; refine L_nil ?_; refine T_n ?_; refine A_ifT rfl ?_; refine A_region ?_
          refine M0 (q_assignC rfl rfl rfl) rfl rfl ?_; refine L_nil ?_; refine B_n ?_; refine T_n ?_; refine A_region ?_; refine M0 (q_moveC rfl rfl rfl) rfl rfl ?_
          refine M0 (q_add rfl rfl rfl rfl (by omega)) rfl rfl ?_; refine M0 (q_assignC rfl rfl rfl) rfl rfl ?_; refine L_nil ?_; refine T_n ?_
          exact ⟨w - (c + 1), by omega, (fun (c : Nat) (u : Seen × Bool) => (⟨_, [(1, .o (.c (.ptr 0 0))), (3, I w), (4, .o (.c (.ptr 1 0))), (5, B u.2), (6, I k), (7, S rows[k]), (8, I c), (33, L rows), (34, I (els rows).length), (35, I k)], [.box [.rd [] (sl rows)], .box [vb false, vb u.1.1, vb u.1.2.1, vb u.1.2.2.1, vb u.1.2.2.2]]⟩ : St)) (c + 1) (((sa, true, sc, sd), true)), W_go [0, 1] (by decide) rfl (rfl) (.cons rfl (.cons rfl (.cons rfl (.cons rfl (.cons rfl (.cons rfl (.cons rfl (.cons rfl (.cons rfl (.cons rfl (.nil))))))))))), c + 1, ((sa, true, sc, sd), true), by omega, hcn.trans (by simp [tileM]), rfl⟩
      · refine A_skip ?_; refine T_n ?_; refine A_seq ?_; refine A_block ?_; refine A_seq ?_; refine A_region ?_; refine M0 (q_moveC rfl rfl rfl) rfl rfl ?_
        refine M0 (q_geqK (b := true) rfl rfl rfl rfl (by decide)) rfl rfl ?_; refine M0 (q_moveC rfl rfl rfl) rfl rfl ?_; refine M_yes rfl rfl rfl ?_; refine M0 (q_moveC rfl rfl rfl) rfl rfl ?_
        refine M_yes rfl rfl rfl ?_; refine M0 (q_leqK (b := true) rfl rfl rfl rfl (by decide)) rfl rfl ?_; refine M0 (q_pickT rfl rfl rfl rfl) rfl rfl ?_
        refine M0 (q_assignC rfl rfl rfl) rfl rfl ?_; refine L_nil ?_; refine T_n ?_; refine A_ifT rfl ?_; refine A_seq ?_; refine A_seq ?_; refine A_region ?_
        refine M0 (q_moveC rfl rfl rfl) rfl rfl ?_; refine M0 (q_sub8 rfl rfl rfl rfl (by omega)) rfl rfl ?_; refine M0 (q_aidx rfl rfl rfl rfl (by omega)) rfl rfl ?_
        refine M0 (q_ld1 rfl rfl rfl rfl rfl) rfl rfl ?_; refine L_nil ?_; refine T_n ?_
        refine A_cond rfl (fun h8 => ?_) (fun h8 => ?_)
        · have h8 : sc = true := h8
          subst h8
          refine A_seq ?_; refine A_region ?_; refine M0 (q_assignC rfl rfl rfl) rfl rfl ?_; refine L_nil ?_; refine T_n ?_; refine A_ret ?_; refine T_r ?_; refine B_r ?_; refine T_r ?_; refine B_r ?_
          refine T_r ?_; refine T_r ?_; refine B_r ?_; refine B_r ?_; refine T_r ?_; refine T_r ?_; refine B_r ?_; refine T_r ?_; refine F_r ?_
          exact E_tmp rfl rfl (W_end [] (by decide) rfl rfl (B_eq (hbad (hcn.trans (by simp [tileM]))).symm))
        · have h8 : sc = false := h8
          subst h8
          refine A_skip ?_; refine T_n ?_; refine A_region ?_; refine M0 (q_moveC rfl rfl rfl) rfl rfl ?_; refine M0 (q_sub8 rfl rfl rfl rfl (by omega)) rfl rfl ?_
          refine M0 (q_aidx rfl rfl rfl rfl (by omega)) rfl rfl ?_; refine M_st1 rfl rfl rfl rfl rfl rfl rfl rfl ?_; refine L_nil ?_; refine B_n ?_; refine T_n ?_; refine A_seq ?_; refine A_region ?_
          refine M0 (q_moveC rfl rfl rfl) rfl rfl ?_; refine M0 (q_neqK (b := true) rfl rfl rfl rfl (by decide)) rfl rfl ?_; refine L_nil ?_; refine T_n ?_; refine A_ifT rfl ?_; refine A_region ?_
          refine M0 (q_assignC rfl rfl rfl) rfl rfl ?_; refine L_nil ?_; refine B_n ?_; refine T_n ?_; refine A_region ?_; refine M0 (q_moveC rfl rfl rfl) rfl rfl ?_
          refine M0 (q_add rfl rfl rfl rfl (by omega)) rfl rfl ?_; refine M0 (q_assignC rfl rfl rfl) rfl rfl ?_; refine L_nil ?_; refine T_n ?_
          exact ⟨w - (c + 1), by omega, (fun (c : Nat) (u : Seen × Bool) => (⟨_, [(1, .o (.c (.ptr 0 0))), (3, I w), (4, .o (.c (.ptr 1 0))), (5, B u.2), (6, I k), (7, S rows[k]), (8, I c), (33, L rows), (34, I (els rows).length), (35, I k)], [.box [.rd [] (sl rows)], .box [vb false, vb u.1.1, vb u.1.2.1, vb u.1.2.2.1, vb u.1.2.2.2]]⟩ : St)) (c + 1) (((sa, sb, true, sd), true)), W_go [0, 1] (by decide) rfl (rfl) (.cons rfl (.cons rfl (.cons rfl (.cons rfl (.cons rfl (.cons rfl (.cons rfl (.cons rfl (.cons rfl (.cons rfl (.nil))))))))))), c + 1, ((sa, sb, true, sd), true), by omega, hcn.trans (by simp [tileM]), rfl⟩
      · refine A_skip ?_; refine T_n ?_; refine A_seq ?_; refine A_block ?_; refine A_seq ?_; refine A_region ?_; refine M0 (q_moveC rfl rfl rfl) rfl rfl ?_
        refine M0 (q_geqK (b := true) rfl rfl rfl rfl (by decide)) rfl rfl ?_; refine M0 (q_moveC rfl rfl rfl) rfl rfl ?_; refine M_yes rfl rfl rfl ?_; refine M0 (q_moveC rfl rfl rfl) rfl rfl ?_
        refine M_yes rfl rfl rfl ?_; refine M0 (q_leqK (b := true) rfl rfl rfl rfl (by decide)) rfl rfl ?_; refine M0 (q_pickT rfl rfl rfl rfl) rfl rfl ?_
        refine M0 (q_assignC rfl rfl rfl) rfl rfl ?_; refine L_nil ?_; refine T_n ?_; refine A_ifT rfl ?_; refine A_seq ?_; refine A_seq ?_; refine A_region ?_
        refine M0 (q_moveC rfl rfl rfl) rfl rfl ?_; refine M0 (q_sub8 rfl rfl rfl rfl (by omega)) rfl rfl ?_; refine M0 (q_aidx rfl rfl rfl rfl (by omega)) rfl rfl ?_
        refine M0 (q_ld1 rfl rfl rfl rfl rfl) rfl rfl ?_; refine L_nil ?_; refine T_n ?_
        refine A_cond rfl (fun h8 => ?_) (fun h8 => ?_)
        · have h8 : sd = true := h8
          subst h8
          refine A_seq ?_; refine A_region ?_; refine M0 (q_assignC rfl rfl rfl) rfl rfl ?_; refine L_nil ?_; refine T_n ?_; refine A_ret ?_; refine T_r ?_; refine B_r ?_; refine T_r ?_; refine B_r ?_
          refine T_r ?_; refine T_r ?_; refine B_r ?_; refine B_r ?_; refine T_r ?_; refine T_r ?_; refine B_r ?_; refine T_r ?_; refine F_r ?_
          exact E_tmp rfl rfl (W_end [] (by decide) rfl rfl (B_eq (hbad (hcn.trans (by simp [tileM]))).symm))
        · have h8 : sd = false := h8
          subst h8
          refine A_skip ?_; refine T_n ?_; refine A_region ?_; refine M0 (q_moveC rfl rfl rfl) rfl rfl ?_; refine M0 (q_sub8 rfl rfl rfl rfl (by omega)) rfl rfl ?_
          refine M0 (q_aidx rfl rfl rfl rfl (by omega)) rfl rfl ?_; refine M_st1 rfl rfl rfl rfl rfl rfl rfl rfl ?_; refine L_nil ?_; refine B_n ?_; refine T_n ?_; refine A_seq ?_; refine A_region ?_
          refine M0 (q_moveC rfl rfl rfl) rfl rfl ?_; refine M0 (q_neqK (b := true) rfl rfl rfl rfl (by decide)) rfl rfl ?_; refine L_nil ?_; refine T_n ?_; refine A_ifT rfl ?_; refine A_region ?_
          refine M0 (q_assignC rfl rfl rfl) rfl rfl ?_; refine L_nil ?_; refine B_n ?_; refine T_n ?_; refine A_region ?_; refine M0 (q_moveC rfl rfl rfl) rfl rfl ?_
          refine M0 (q_add rfl rfl rfl rfl (by omega)) rfl rfl ?_; refine M0 (q_assignC rfl rfl rfl) rfl rfl ?_; refine L_nil ?_; refine T_n ?_
          exact ⟨w - (c + 1), by omega, (fun (c : Nat) (u : Seen × Bool) => (⟨_, [(1, .o (.c (.ptr 0 0))), (3, I w), (4, .o (.c (.ptr 1 0))), (5, B u.2), (6, I k), (7, S rows[k]), (8, I c), (33, L rows), (34, I (els rows).length), (35, I k)], [.box [.rd [] (sl rows)], .box [vb false, vb u.1.1, vb u.1.2.1, vb u.1.2.2.1, vb u.1.2.2.2]]⟩ : St)) (c + 1) (((sa, sb, sc, true), true)), W_go [0, 1] (by decide) rfl (rfl) (.cons rfl (.cons rfl (.cons rfl (.cons rfl (.cons rfl (.cons rfl (.cons rfl (.cons rfl (.cons rfl (.cons rfl (.nil))))))))))), c + 1, ((sa, sb, sc, true), true), by omega, hcn.trans (by simp [tileM]), rfl⟩
      · refine A_skip ?_; refine T_n ?_; refine A_seq ?_; refine A_block ?_; refine A_seq ?_; refine A_region ?_; refine M0 (q_moveC rfl rfl rfl) rfl rfl ?_
        refine M0 (q_geqK (b := true) rfl rfl rfl rfl (by decide)) rfl rfl ?_; refine M0 (q_moveC rfl rfl rfl) rfl rfl ?_; refine M_yes rfl rfl rfl ?_; refine M0 (q_moveC rfl rfl rfl) rfl rfl ?_
        refine M_yes rfl rfl rfl ?_; refine M0 (q_leqK (b := false) rfl rfl rfl rfl (by decide)) rfl rfl ?_; refine M0 (q_pickT rfl rfl rfl rfl) rfl rfl ?_
        refine M0 (q_assignC rfl rfl rfl) rfl rfl ?_; refine L_nil ?_; refine T_n ?_; refine A_ifF rfl ?_; refine A_seq ?_; refine A_region ?_; refine M0 (q_moveC rfl rfl rfl) rfl rfl ?_
        refine M0 (q_neqK (b := true) rfl rfl rfl rfl (by decide)) rfl rfl ?_; refine M0 (q_moveC rfl rfl rfl) rfl rfl ?_; refine M_yes rfl rfl rfl ?_; refine M0 (q_moveC rfl rfl rfl) rfl rfl ?_
        refine M_yes rfl rfl rfl ?_; refine M0 (q_neqK (b := false) rfl rfl rfl rfl (by decide)) rfl rfl ?_; refine M0 (q_pickT rfl rfl rfl rfl) rfl rfl ?_
        refine M0 (q_moveC rfl rfl rfl) rfl rfl ?_; refine M_no rfl rfl rfl rfl rfl rfl ?_; refine M_no rfl rfl rfl rfl rfl rfl ?_; refine M0 (q_pickF rfl rfl rfl rfl) rfl rfl ?_
        refine M0 (q_assignC rfl rfl rfl) rfl rfl ?_; refine L_nil ?_; refine T_n ?_; refine A_ifF rfl ?_; refine A_skip ?_; refine B_n ?_; refine T_n ?_; refine A_seq ?_; refine A_region ?_
        refine M0 (q_moveC rfl rfl rfl) rfl rfl ?_; refine M0 (q_neqK (b := true) rfl rfl rfl rfl (by decide)) rfl rfl ?_; refine L_nil ?_; refine T_n ?_; refine A_ifT rfl ?_; refine A_region ?_
        refine M0 (q_assignC rfl rfl rfl) rfl rfl ?_; refine L_nil ?_; refine B_n ?_; refine T_n ?_; refine A_region ?_; refine M0 (q_moveC rfl rfl rfl) rfl rfl ?_
        refine M0 (q_add rfl rfl rfl rfl (by omega)) rfl rfl ?_; refine M0 (q_assignC rfl rfl rfl) rfl rfl ?_; refine L_nil ?_; refine T_n ?_
        exact ⟨w - (c + 1), by omega, (fun (c : Nat) (u : Seen × Bool) => (⟨_, [(1, .o (.c (.ptr 0 0))), (3, I w), (4, .o (.c (.ptr 1 0))), (5, B u.2), (6, I k), (7, S rows[k]), (8, I c), (33, L rows), (34, I (els rows).length), (35, I k)], [.box [.rd [] (sl rows)], .box [vb false, vb u.1.1, vb u.1.2.1, vb u.1.2.2.1, vb u.1.2.2.2]]⟩ : St)) (c + 1) (((sa, sb, sc, sd), true)), W_go [0, 1] (by decide) rfl (rfl) (.cons rfl (.cons rfl (.cons rfl (.cons rfl (.cons rfl (.cons rfl (.cons rfl (.cons rfl (.cons rfl (.cons rfl (.nil))))))))))), c + 1, ((sa, sb, sc, sd), true), by omega, hcn.trans (by simp [tileM]), rfl⟩
      · refine A_skip ?_; refine T_n ?_; refine A_seq ?_; refine A_block ?_; refine A_seq ?_; refine A_region ?_; refine M0 (q_moveC rfl rfl rfl) rfl rfl ?_
        refine M0 (q_geqK (b := false) rfl rfl rfl rfl (by decide)) rfl rfl ?_; refine M0 (q_moveC rfl rfl rfl) rfl rfl ?_; refine M_no rfl rfl rfl rfl rfl rfl ?_
        refine M_no rfl rfl rfl rfl rfl rfl ?_; refine M0 (q_pickF rfl rfl rfl rfl) rfl rfl ?_; refine M0 (q_assignC rfl rfl rfl) rfl rfl ?_; refine L_nil ?_; refine T_n ?_; refine A_ifF rfl ?_
        refine A_seq ?_; refine A_region ?_; refine M0 (q_moveC rfl rfl rfl) rfl rfl ?_; refine M0 (q_neqK (b := true) rfl rfl rfl rfl (by decide)) rfl rfl ?_
        refine M0 (q_moveC rfl rfl rfl) rfl rfl ?_; refine M_yes rfl rfl rfl ?_; refine M0 (q_moveC rfl rfl rfl) rfl rfl ?_; refine M_yes rfl rfl rfl ?_
        refine M0 (q_neqK (b := true) rfl rfl rfl rfl (by decide)) rfl rfl ?_; refine M0 (q_pickT rfl rfl rfl rfl) rfl rfl ?_; refine M0 (q_moveC rfl rfl rfl) rfl rfl ?_
        refine M_yes rfl rfl rfl ?_; refine M0 (q_moveC rfl rfl rfl) rfl rfl ?_; refine M_yes rfl rfl rfl ?_; refine M0 (q_neqK (b := false) rfl rfl rfl rfl (by decide)) rfl rfl ?_
        refine M0 (q_pickT rfl rfl rfl rfl) rfl rfl ?_; refine M0 (q_assignC rfl rfl rfl) rfl rfl ?_; refine L_nil ?_; refine T_n ?_; refine A_ifF rfl ?_; refine A_skip ?_; refine B_n ?_; refine T_n ?_
        refine A_seq ?_; refine A_region ?_; refine M0 (q_moveC rfl rfl rfl) rfl rfl ?_; refine M0 (q_neqK (b := true) rfl rfl rfl rfl (by decide)) rfl rfl ?_; refine L_nil ?_; refine T_n ?_
        refine A_ifT rfl ?_; refine A_region ?_; refine M0 (q_assignC rfl rfl rfl) rfl rfl ?_; refine L_nil ?_; refine B_n ?_; refine T_n ?_; refine A_region ?_
        refine M0 (q_moveC rfl rfl rfl) rfl rfl ?_; refine M0 (q_add rfl rfl rfl rfl (by omega)) rfl rfl ?_; refine M0 (q_assignC rfl rfl rfl) rfl rfl ?_; refine L_nil ?_; refine T_n ?_
        exact ⟨w - (c + 1), by omega, (fun (c : Nat) (u : Seen × Bool) => (⟨_, [(1, .o (.c (.ptr 0 0))), (3, I w), (4, .o (.c (.ptr 1 0))), (5, B u.2), (6, I k), (7, S rows[k]), (8, I c), (33, L rows), (34, I (els rows).length), (35, I k)], [.box [.rd [] (sl rows)], .box [vb false, vb u.1.1, vb u.1.2.1, vb u.1.2.2.1, vb u.1.2.2.2]]⟩ : St)) (c + 1) (((sa, sb, sc, sd), true)), W_go [0, 1] (by decide) rfl (rfl) (.cons rfl (.cons rfl (.cons rfl (.cons rfl (.cons rfl (.cons rfl (.cons rfl (.cons rfl (.cons rfl (.cons rfl (.nil))))))))))), c + 1, ((sa, sb, sc, sd), true), by omega, hcn.trans (by simp [tileM]), rfl⟩
      · refine A_skip ?_; refine T_n ?_; refine A_seq ?_; refine A_block ?_; refine A_seq ?_; refine A_region ?_; refine M0 (q_moveC rfl rfl rfl) rfl rfl ?_; refine M0 (q_geq rfl rfl rfl rfl) rfl rfl ?_
        refine M0 (q_moveC rfl rfl rfl) rfl rfl ?_; refine M0 (Qt.grdT rfl rfl rfl .stop (fun hgrd => q_moveC rfl rfl rfl)) rfl rfl ?_
        refine M0 (Qt.grdT rfl rfl rfl (.hit .stop) (fun hgrd => q_leq rfl rfl rfl rfl)) rfl rfl ?_; refine M0 (q_and rfl rfl rfl rfl) rfl rfl ?_; refine M0 (q_assignC rfl rfl rfl) rfl rfl ?_
        refine L_nil ?_; refine T_n ?_
        refine A_cond rfl (fun h8 => ?_) (fun h8 => ?_)
        · simp only [Bool.and_eq_true, decide_eq_true_eq] at h8
          omega
        refine A_seq ?_; refine A_region ?_; refine M0 (q_moveC rfl rfl rfl) rfl rfl ?_; refine M0 (q_neq rfl rfl rfl rfl) rfl rfl ?_; refine M0 (q_moveC rfl rfl rfl) rfl rfl ?_
        refine M0 (Qt.grdT rfl rfl rfl .stop (fun hgrd => q_moveC rfl rfl rfl)) rfl rfl ?_; refine M0 (Qt.grdT rfl rfl rfl (.hit .stop) (fun hgrd => q_neq rfl rfl rfl rfl)) rfl rfl ?_
        refine M0 (q_and rfl rfl rfl rfl) rfl rfl ?_; refine M0 (q_moveC rfl rfl rfl) rfl rfl ?_; refine M0 (Qt.grdT rfl rfl rfl .stop (fun hgrd => q_moveC rfl rfl rfl)) rfl rfl ?_
        refine M0 (Qt.grdT rfl rfl rfl (.hit .stop) (fun hgrd => q_neq rfl rfl rfl rfl)) rfl rfl ?_; refine M0 (q_and rfl rfl rfl rfl) rfl rfl ?_; refine M0 (q_assignC rfl rfl rfl) rfl rfl ?_
        refine L_nil ?_; refine T_n ?_
        refine A_cond rfl (fun h9 => ?_) (fun h9 => ?_)
        · refine A_seq ?_; refine A_region ?_; refine M0 (q_assignC rfl rfl rfl) rfl rfl ?_; refine L_nil ?_; refine T_n ?_; refine A_ret ?_; refine B_r ?_; refine T_r ?_; refine B_r ?_; refine T_r ?_
          refine T_r ?_; refine B_r ?_; refine B_r ?_; refine T_r ?_; refine T_r ?_; refine B_r ?_; refine T_r ?_; refine F_r ?_
          exact E_tmp rfl rfl (W_end [] (by decide) rfl rfl (B_eq (hbad (hcn.trans (by simp [tileM, ht7]))).symm))
        · simp only [Bool.and_eq_false_iff, decide_eq_false_iff_not, Classical.not_not] at h9
          omega
    · have h5 : c = w := by have := of_decide_eq_false h5; omega
      rw [h5] at hp_D
      rw [hp_D] at hrn
      refine A_exit ?_; refine T_x ?_; refine T_x ?_; refine B_xs ?_; refine B_n ?_; refine T_n ?_; refine A_region ?_; refine M0 (q_add rfl rfl rfl rfl (by omega)) rfl rfl ?_
      refine M0 (q_moveC rfl rfl rfl) rfl rfl ?_; refine L_nil ?_; refine T_n ?_
      exact ⟨rows.length - (k + 1), by omega, (fun (k : Nat) (s : Seen × Bool) => (⟨_, [(1, .o (.c (.ptr 0 0))), (3, I w), (4, .o (.c (.ptr 1 0))), (5, B s.2), (33, L rows), (34, I (els rows).length), (35, I k)], [.box [.rd [] (sl rows)], .box [vb false, vb s.1.1, vb s.1.2.1, vb s.1.2.2.1, vb s.1.2.2.2]]⟩ : St)) (k + 1) (u), W_go [0, 1] (by decide) rfl (rfl) (.cons rfl (.cons rfl (.cons rfl (.cons rfl (.cons rfl (.cons rfl (.cons rfl (.nil)))))))), k + 1, u, by omega, hrn, rfl⟩
  · have h3 : ¬ ((k : Int) < (els rows).length) := of_decide_eq_false h
    have hk : k = rows.length := by omega
    subst hk
    refine A_exit ?_; refine T_x ?_; refine T_x ?_; refine B_xs ?_; refine T_n ?_; refine A_seq ?_; refine A_region ?_; refine M0 (q_moveC rfl rfl rfl) rfl rfl ?_
    refine M0 (q_assignC rfl rfl rfl) rfl rfl ?_; refine L_nil ?_; refine T_n ?_; refine A_ret ?_; refine F_r ?_
    exact E_tmp rfl rfl (W_end [] (by decide) rfl rfl (B_eq (by
      unfold levelOk
      rw [hw, hp_A]
      have : 3 ≤ rows.length ∧ rows.length ≤ 12 ∧ 4 ≤ w ∧ w ≤ 20 := by omega
      simp [this])))
end Go.Proofs.Ytkfnaniegldfaaa
