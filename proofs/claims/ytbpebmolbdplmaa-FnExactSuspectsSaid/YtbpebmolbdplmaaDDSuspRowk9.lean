/-
  What a valid level is: the program's LevelOk.
  Conditions: none.
  What a valid level is: the reference's LevelOk.
  Conditions: none.
  Walls: SizeOf, solid, SolidAt of the program; SizeOf, l02Solid of the reference.
  Conditions: a valid level, a size from 1 to 16.
  Valid bodies and worlds: BodyOk, WorldOk of the program; l02Body, WorldOk of the reference.
  Conditions: lists of at most 2^40 elements.
-/
import Derived.Test.YtbpebmolbdplmaaDDSuspRowk8
section
set_option linter.unusedSimpArgs false
set_option linter.unusedVariables false
namespace Go.Proofs.Ytbpebmolbdplmaa
open Go.RowKit

set_option maxHeartbeats 4000000 in
theorem I_LevelOk (x : TLevel) (hg : Enc.gd x) : Con Try.prog 121 [] [ag x] [] (B (levelOk x)) := by
  obtain ⟨rows⟩ := x
  have hn : Enc.gd rows := hg
  have hn1 := hn.1
  have hlx := els_len rows
  refine Con.of Try.func121 rfl Try.ntmps121 rfl (fun E => ?_)
  refine A_seq ?_; refine A_region ?_; refine M1 (q_boxN rfl rfl rfl rfl) rfl rfl ?_; refine M0 (q_assignC rfl rfl rfl) rfl rfl ?_; refine L_nil ?_; refine T_n ?_; refine A_seq ?_; refine A_seq ?_
  refine A_region ?_; refine M0 (q_fldp rfl rfl rfl rfl (by decide)) rfl rfl ?_; refine M0 (q_ld1 rfl rfl rfl rfl rfl) rfl rfl ?_; refine M0 (q_len rfl rfl rfl) rfl rfl ?_
  refine M0 (q_lss rfl rfl rfl rfl) rfl rfl ?_; refine M0 (q_moveC rfl rfl rfl) rfl rfl ?_
  refine M0 (Qt.grdF rfl rfl rfl .stop (fun hgrd => q_fldp rfl rfl rfl rfl (by decide))) rfl rfl ?_
  refine M0 (Qt.grdF rfl rfl rfl (.hit .stop) (fun hgrd => q_ld1 rfl rfl rfl rfl rfl)) rfl rfl ?_
  refine M0 (Qt.grdF rfl rfl rfl (.hit (.hit .stop)) (fun hgrd => q_len rfl rfl rfl)) rfl rfl ?_
  refine M0 (Qt.grdF rfl rfl rfl (.hit (.hit (.hit .stop))) (fun hgrd => q_gtr rfl rfl rfl rfl)) rfl rfl ?_; refine M0 (q_or rfl rfl rfl rfl) rfl rfl ?_; refine L_nil ?_; refine T_n ?_
  refine A_cond rfl (fun h => ?_) (fun h => ?_)
  · simp only [Bool.or_eq_true, decide_eq_true_eq] at h
    refine A_seq ?_; refine A_region ?_; refine M0 (q_assignC rfl rfl rfl) rfl rfl ?_; refine L_nil ?_; refine T_n ?_; refine A_ret ?_; refine T_r ?_; refine F_r ?_
    exact E_tmp rfl rfl (W_end [] (by decide) rfl rfl (B_eq (by simp [levelOk]; omega)))
  simp only [Bool.or_eq_false_iff, decide_eq_false_iff_not] at h
  have h0 : 0 < rows.length := by omega
  have hat0 : (els rows)[(0 : Int).toNat]? = some (Enc.e rows[0]) := els_at h0
  have hw := width_at h0
  refine A_skip ?_; refine T_n ?_; refine A_seq ?_; refine A_region ?_; refine M0 (q_fldp rfl rfl rfl rfl (by decide)) rfl rfl ?_; refine M0 (q_ld1 rfl rfl rfl rfl rfl) rfl rfl ?_
  refine M0 (q_at rfl rfl rfl rfl (by omega) (by assumption) rfl) rfl rfl ?_; refine M0 (q_lr1 rfl rfl rfl rfl) rfl rfl ?_; refine M0 (q_lens rfl rfl rfl) rfl rfl ?_
  refine M0 (q_assignC rfl rfl rfl) rfl rfl ?_; refine L_nil ?_; refine T_n ?_; refine A_seq ?_; refine A_seq ?_; refine A_region ?_; refine M0 (q_moveC rfl rfl rfl) rfl rfl ?_
  refine M0 (q_lss rfl rfl rfl rfl) rfl rfl ?_; refine M0 (q_moveC rfl rfl rfl) rfl rfl ?_; refine M0 (Qt.grdF rfl rfl rfl .stop (fun hgrd => q_moveC rfl rfl rfl)) rfl rfl ?_
  refine M0 (Qt.grdF rfl rfl rfl (.hit .stop) (fun hgrd => q_gtr rfl rfl rfl rfl)) rfl rfl ?_; refine M0 (q_or rfl rfl rfl rfl) rfl rfl ?_; refine L_nil ?_; refine T_n ?_
  refine A_cond rfl (fun h1 => ?_) (fun h1 => ?_)
  · simp only [Bool.or_eq_true, decide_eq_true_eq] at h1
    refine A_seq ?_; refine A_region ?_; refine M0 (q_assignC rfl rfl rfl) rfl rfl ?_; refine L_nil ?_; refine T_n ?_; refine A_ret ?_; refine T_r ?_; refine F_r ?_
    exact E_tmp rfl rfl (W_end [] (by decide) rfl rfl (B_eq (by simp [levelOk]; omega)))
  simp only [Bool.or_eq_false_iff, decide_eq_false_iff_not] at h1
  obtain ⟨w, hw'⟩ : ∃ w, w = rows[0].size := ⟨_, rfl⟩
  rw [← hw'] at hw h1
  refine A_skip ?_; refine T_n ?_; refine A_seq ?_; refine A_region ?_; refine M1 (q_alloc rfl rfl rfl) rfl rfl ?_; refine L_nil ?_; refine T_n ?_; refine A_seq ?_; refine A_region ?_
  refine M0 (q_assignC rfl rfl rfl) rfl rfl ?_; refine L_nil ?_; refine T_n ?_; refine A_seq ?_; refine A_seq ?_; refine A_region ?_; refine M0 (q_fldp rfl rfl rfl rfl (by decide)) rfl rfl ?_
  refine M0 (q_ld1 rfl rfl rfl rfl rfl) rfl rfl ?_; refine M0 (q_len rfl rfl rfl) rfl rfl ?_; refine M0 (q_moveC rfl rfl rfl) rfl rfl ?_; refine L_nil ?_; refine T_n ?_; refine A_block ?_
  refine A_loop (fun m st => ∃ (k : Nat) (s : Seen × Bool), k + m = rows.length ∧ (rowsM rows w k = some s) ∧ st = (fun (k : Nat) (s : Seen × Bool) => (⟨_, [(1, .o (.c (.ptr 0 0))), (3, I w), (4, .o (.c (.ptr 1 0))), (5, B s.2), (33, L rows), (34, I (els rows).length), (35, I k)], [.box [.rd [] (sl rows)], .box [vb false, vb s.1.1, vb s.1.2.1, vb s.1.2.2.1, vb s.1.2.2.2]]⟩ : St)) k s) (rows.length) ⟨(fun (k : Nat) (s : Seen × Bool) => (⟨_, [(1, .o (.c (.ptr 0 0))), (3, I w), (4, .o (.c (.ptr 1 0))), (5, B s.2), (33, L rows), (34, I (els rows).length), (35, I k)], [.box [.rd [] (sl rows)], .box [vb false, vb s.1.1, vb s.1.2.1, vb s.1.2.2.1, vb s.1.2.2.2]]⟩ : St)) 0 (((false, false, false, false), false)), W_go [0, 1] (by decide) rfl (rfl) (.cons rfl (.cons (I_eq (by omega)) (.cons rfl (.cons rfl (.cons rfl (.cons rfl (.cons rfl (.nil)))))))), 0, ((false, false, false, false), false), by omega, rfl, rfl⟩ ?_
  rintro m_A _ ⟨k, s, hk_A, hp_A, rfl⟩
  refine A_seq ?_; refine A_region ?_; refine M0 (q_lss rfl rfl rfl rfl) rfl rfl ?_; refine L_nil ?_; refine T_n ?_; refine A_seq ?_
  refine A_cond rfl (fun h => ?_) (fun h => ?_)
  · have h3 : k < rows.length := by have := of_decide_eq_true h; omega
    have hat := els_at h3
    have hgk : rows[k].size ≤ 9223372036854775807 := hn.2 _ (List.getElem_mem h3)
    refine A_skip ?_; refine T_n ?_; refine A_seq ?_; refine A_block ?_; refine A_seq ?_; refine A_region ?_; refine M0 (q_moveC rfl rfl rfl) rfl rfl ?_
    refine M0 (q_at rfl rfl rfl rfl (by omega) (by assumption) rfl) rfl rfl ?_; refine M0 (q_lr1 rfl rfl rfl rfl) rfl rfl ?_; refine M0 (q_assignC rfl rfl rfl) rfl rfl ?_
    refine M0 (q_assignC rfl rfl rfl) rfl rfl ?_; refine L_nil ?_; refine T_n ?_; refine A_seq ?_; refine A_seq ?_; refine A_region ?_; refine M0 (q_moveC rfl rfl rfl) rfl rfl ?_
    refine M0 (q_lens rfl rfl rfl) rfl rfl ?_; refine M0 (q_moveC rfl rfl rfl) rfl rfl ?_; refine M0 (q_neq rfl rfl rfl rfl) rfl rfl ?_; refine L_nil ?_; refine T_n ?_
    refine A_cond rfl (fun h4 => ?_) (fun h4 => ?_)
    · have h4 : ¬ rows[k].size = w := by have := of_decide_eq_true h4; omega
      refine A_seq ?_; refine A_region ?_; refine M0 (q_assignC rfl rfl rfl) rfl rfl ?_; refine L_nil ?_; refine T_n ?_; refine A_ret ?_; refine T_r ?_; refine B_r ?_; refine T_r ?_; refine T_r ?_
      refine B_r ?_; refine T_r ?_; refine F_r ?_
      exact E_tmp rfl rfl (W_end [] (by decide) rfl rfl (B_eq (level_no (l := ⟨rows⟩) h3 hw (rows_bad h3 h4)).symm))
    have h4 : rows[k].size = w := by have := of_decide_eq_false h4; omega
    have hrn := rows_next hp_A h3 h4
    obtain ⟨er, her⟩ : ∃ er, er = (decide (k = 0) || decide (k + 1 = rows.length)) := ⟨_, rfl⟩
    rw [← her] at hrn
    refine A_skip ?_; refine T_n ?_; refine A_seq ?_; refine A_region ?_; refine M0 (q_assignC rfl rfl rfl) rfl rfl ?_; refine L_nil ?_; refine T_n ?_; refine A_block ?_
    refine A_loop (fun m st => ∃ (c : Nat) (u : Seen × Bool), c + m = w ∧ (colsM rows[k] er w s c = some u) ∧ st = (fun (c : Nat) (u : Seen × Bool) => (⟨_, [(1, .o (.c (.ptr 0 0))), (3, I w), (4, .o (.c (.ptr 1 0))), (5, B u.2), (6, I k), (7, S rows[k]), (8, I c), (33, L rows), (34, I (els rows).length), (35, I k)], [.box [.rd [] (sl rows)], .box [vb false, vb u.1.1, vb u.1.2.1, vb u.1.2.2.1, vb u.1.2.2.2]]⟩ : St)) c u) (w) ⟨(fun (c : Nat) (u : Seen × Bool) => (⟨_, [(1, .o (.c (.ptr 0 0))), (3, I w), (4, .o (.c (.ptr 1 0))), (5, B u.2), (6, I k), (7, S rows[k]), (8, I c), (33, L rows), (34, I (els rows).length), (35, I k)], [.box [.rd [] (sl rows)], .box [vb false, vb u.1.1, vb u.1.2.1, vb u.1.2.2.1, vb u.1.2.2.2]]⟩ : St)) 0 (s), W_go [0, 1] (by decide) rfl (rfl) (.cons rfl (.cons rfl (.cons rfl (.cons rfl (.cons rfl (.cons rfl (.cons rfl (.cons rfl (.cons rfl (.cons rfl (.nil))))))))))), 0, s, by omega, rfl, rfl⟩ ?_
    rintro m_D _ ⟨c, u, hk_D, hp_D, rfl⟩
    refine A_seq ?_; refine A_seq ?_; refine A_region ?_; refine M0 (q_moveC rfl rfl rfl) rfl rfl ?_; refine M0 (q_moveC rfl rfl rfl) rfl rfl ?_; refine M0 (q_lss rfl rfl rfl rfl) rfl rfl ?_
    refine L_nil ?_; refine T_n ?_
    refine A_cond rfl (fun h5 => ?_) (fun h5 => ?_)
    · have h5 : c < w := by have := of_decide_eq_true h5; omega
      have hcn := cols_next hp_D
      obtain ⟨t, ht⟩ : ∃ t, byteAt rows[k] (c : Int).toNat = t := ⟨_, rfl⟩
      rw [show byteAt rows[k] c = t from ht] at hcn
      have htb : 0 ≤ t ∧ t ≤ 255 := ht ▸ byteAt_lt _ _
      obtain ⟨⟨sa, sb, sc, sd⟩, so⟩ := u
      obtain ⟨e, he⟩ : ∃ e, e = (er || decide (c = 0) || decide (c + 1 = w)) := ⟨_, rfl⟩
      rw [← he] at hcn
      refine A_skip ?_; refine T_n ?_; refine A_seq ?_; refine A_block ?_; refine A_seq ?_; refine A_region ?_; refine M0 (q_moveC rfl rfl rfl) rfl rfl ?_; refine M0 (q_moveC rfl rfl rfl) rfl rfl ?_
      refine M0 (q_byteK rfl rfl rfl rfl (by assumption) (by omega)) rfl rfl ?_; refine M0 (q_assignC rfl rfl rfl) rfl rfl ?_; refine L_nil ?_; refine T_n ?_; refine A_seq ?_; refine A_region ?_
      refine M0 (q_moveC rfl rfl rfl) rfl rfl ?_; refine M0 (q_eql rfl rfl rfl rfl) rfl rfl ?_; refine M0 (q_moveC rfl rfl rfl) rfl rfl ?_
      refine M0 (Qt.grdF rfl rfl rfl .stop (fun hgrd => q_moveC rfl rfl rfl)) rfl rfl ?_
      refine M0 (Qt.grdF rfl rfl rfl (.hit .stop) (fun hgrd => q_fldp rfl rfl rfl rfl (by decide))) rfl rfl ?_
      refine M0 (Qt.grdF rfl rfl rfl (.hit (.hit .stop)) (fun hgrd => q_ld1 rfl rfl rfl rfl rfl)) rfl rfl ?_
      refine M0 (Qt.grdF rfl rfl rfl (.hit (.hit (.hit .stop))) (fun hgrd => q_len rfl rfl rfl)) rfl rfl ?_
      refine M0 (Qt.grdF rfl rfl rfl (.hit (.hit (.hit (.hit .stop)))) (fun hgrd => q_sub rfl rfl rfl rfl (by omega))) rfl rfl ?_
      refine M0 (Qt.grdF rfl rfl rfl (.hit (.hit (.hit (.hit (.hit .stop))))) (fun hgrd => q_eql rfl rfl rfl rfl)) rfl rfl ?_; refine M0 (q_or rfl rfl rfl rfl) rfl rfl ?_
      refine M0 (q_moveC rfl rfl rfl) rfl rfl ?_; refine M0 (Qt.grdF rfl rfl rfl .stop (fun hgrd => q_moveC rfl rfl rfl)) rfl rfl ?_
      refine M0 (Qt.grdF rfl rfl rfl (.hit .stop) (fun hgrd => q_eql rfl rfl rfl rfl)) rfl rfl ?_; refine M0 (q_or rfl rfl rfl rfl) rfl rfl ?_; refine M0 (q_moveC rfl rfl rfl) rfl rfl ?_
      refine M0 (Qt.grdF rfl rfl rfl .stop (fun hgrd => q_moveC rfl rfl rfl)) rfl rfl ?_; refine M0 (Qt.grdF rfl rfl rfl (.hit .stop) (fun hgrd => q_moveC rfl rfl rfl)) rfl rfl ?_
      refine M0 (Qt.grdF rfl rfl rfl (.hit (.hit .stop)) (fun hgrd => q_sub rfl rfl rfl rfl (by omega))) rfl rfl ?_
      refine M0 (Qt.grdF rfl rfl rfl (.hit (.hit (.hit .stop))) (fun hgrd => q_eql rfl rfl rfl rfl)) rfl rfl ?_; refine M0 (q_or rfl rfl rfl rfl) rfl rfl ?_
      refine M0 (q_assignC rfl rfl rfl) rfl rfl ?_; refine L_nil ?_; refine T_n ?_; refine A_seq ?_; refine A_seq ?_; refine A_region ?_; refine M0 (q_moveC rfl rfl rfl) rfl rfl ?_
      refine M0 (q_moveC rfl rfl rfl) rfl rfl ?_; refine M0 (Qt.grdT rfl rfl rfl .stop (fun hgrd => q_moveC rfl rfl rfl)) rfl rfl ?_
      refine M0 (Qt.grdT rfl rfl rfl (.hit .stop) (fun hgrd => q_neq rfl rfl rfl rfl)) rfl rfl ?_; refine M0 (q_and rfl rfl rfl rfl) rfl rfl ?_; refine L_nil ?_; refine T_n ?_
      have hee : (decide ((k : Int) = 0) || decide ((k : Int) = ((els rows).length : Int) - 1) || decide ((c : Int) = 0) || decide ((c : Int) = (w : Int) - 1)) = e := by
        rw [he, her, hlx]
        have g1 : decide ((k : Int) = 0) = decide (k = 0) := by simp
        have g2 : decide ((k : Int) = (rows.length : Int) - 1) = decide (k + 1 = rows.length) := decide_eq_decide.2 (by omega)
        have g3 : decide ((c : Int) = 0) = decide (c = 0) := by simp
        have g4 : decide ((c : Int) = (w : Int) - 1) = decide (c + 1 = w) := decide_eq_decide.2 (by omega)
        rw [g1, g2, g3, g4]
      clear he her
      have hbad : colsM rows[k] er w s (c + 1) = none → levelOk ⟨rows⟩ = false := fun hc => level_no (l := ⟨rows⟩) h3 hw (hrn.trans (cols_none hc (by omega)))
      refine A_cond rfl (fun h6 => ?_) (fun h6 => ?_)
      · rw [hee] at h6
        simp only [Bool.and_eq_true, decide_eq_true_eq] at h6
        refine A_seq ?_; refine A_region ?_; refine M0 (q_assignC rfl rfl rfl) rfl rfl ?_; refine L_nil ?_; refine T_n ?_; refine A_ret ?_; refine T_r ?_; refine B_r ?_; refine T_r ?_; refine T_r ?_
        refine B_r ?_; refine B_r ?_; refine T_r ?_; refine T_r ?_; refine B_r ?_; refine T_r ?_; refine F_r ?_
        exact E_tmp rfl rfl (W_end [] (by decide) rfl rfl (B_eq (hbad (hcn.trans (by simp [tileM, h6]))).symm))
      rw [hee] at h6
      have h7 : t = 35 ∨ e = false := by
        simp only [Bool.and_eq_false_iff, decide_eq_false_iff_not, Classical.not_not] at h6
        exact h6.symm
      clear h6 hee
      refine AWP.pre (st' := (⟨_, [(1, .o (.c (.ptr 0 0))), (3, I w), (4, .o (.c (.ptr 1 0))), (5, B so), (6, I k), (7, S rows[k]), (8, I c), (9, VI .u8 t), (33, L rows), (34, I (els rows).length), (35, I k)], [.box [.rd [] (sl rows)], .box [vb false, vb sa, vb sb, vb sc, vb sd]]⟩ : St)) ?_ (W_go [0, 1] (by decide) rfl (rfl) (.cons rfl (.cons rfl (.cons rfl (.cons rfl (.cons rfl (.cons rfl (.cons rfl (.cons rfl (.cons rfl (.cons rfl (.cons rfl (.nil)))))))))))))
      rcases h7 with rfl | h7
      · refine A_skip ?_; refine T_n ?_; refine A_seq ?_; refine A_block ?_; refine A_seq ?_; refine A_region ?_; refine M0 (q_moveC rfl rfl rfl) rfl rfl ?_
        refine M0 (q_geqK (b := false) rfl rfl rfl rfl (by decide)) rfl rfl ?_; refine M0 (q_moveC rfl rfl rfl) rfl rfl ?_; refine M_no rfl rfl rfl rfl rfl rfl ?_
        refine M_no rfl rfl rfl rfl rfl rfl ?_; refine M0 (q_pickF rfl rfl rfl rfl) rfl rfl ?_; refine M0 (q_assignC rfl rfl rfl) rfl rfl ?_; refine L_nil ?_; refine T_n ?_; refine A_ifF rfl ?_
        refine A_seq ?_; refine A_region ?_; refine M0 (q_moveC rfl rfl rfl) rfl rfl ?_; refine M0 (q_neqK (b := false) rfl rfl rfl rfl (by decide)) rfl rfl ?_
        refine M0 (q_moveC rfl rfl rfl) rfl rfl ?_; refine M_no rfl rfl rfl rfl rfl rfl ?_; refine M_no rfl rfl rfl rfl rfl rfl ?_; refine M0 (q_pickF rfl rfl rfl rfl) rfl rfl ?_
        refine M0 (q_moveC rfl rfl rfl) rfl rfl ?_; refine M_no rfl rfl rfl rfl rfl rfl ?_; refine M_no rfl rfl rfl rfl rfl rfl ?_; refine M0 (q_pickF rfl rfl rfl rfl) rfl rfl ?_
        refine M0 (q_assignC rfl rfl rfl) rfl rfl ?_; refine L_nil ?_; refine T_n ?_; refine A_ifF rfl ?_; refine A_skip ?_; refine B_n ?_; refine T_n ?_; refine A_seq ?_; refine A_region ?_
        refine M0 (q_moveC rfl rfl rfl) rfl rfl ?_; refine M0 (q_neqK (b := false) rfl rfl rfl rfl (by decide)) rfl rfl ?_; refine L_nil ?_; refine T_n ?_; refine A_ifF rfl ?_; refine A_skip ?_
        refine B_n ?_; refine T_n ?_; refine A_region ?_; refine M0 (q_moveC rfl rfl rfl) rfl rfl ?_; refine M0 (q_add rfl rfl rfl rfl (by omega)) rfl rfl ?_
        refine M0 (q_assignC rfl rfl rfl) rfl rfl ?_; refine L_nil ?_; refine T_n ?_
        exact ⟨w - (c + 1), by omega, (fun (c : Nat) (u : Seen × Bool) => (⟨_, [(1, .o (.c (.ptr 0 0))), (3, I w), (4, .o (.c (.ptr 1 0))), (5, B u.2), (6, I k), (7, S rows[k]), (8, I c), (33, L rows), (34, I (els rows).length), (35, I k)], [.box [.rd [] (sl rows)], .box [vb false, vb u.1.1, vb u.1.2.1, vb u.1.2.2.1, vb u.1.2.2.2]]⟩ : St)) (c + 1) (((sa, sb, sc, sd), so)), W_go [0, 1] (by decide) rfl (rfl) (.cons rfl (.cons rfl (.cons rfl (.cons rfl (.cons rfl (.cons rfl (.cons rfl (.cons rfl (.cons rfl (.cons rfl (.nil))))))))))), c + 1, ((sa, sb, sc, sd), so), by omega, hcn.trans (by simp [tileM]), rfl⟩
      subst h7
      rcases (by omega : t = 35 ∨ t = 49 ∨ t = 50 ∨ t = 51 ∨ t = 52 ∨ t = 111 ∨ t = 46 ∨ (t ≠ 35 ∧ t ≠ 49 ∧ t ≠ 50 ∧ t ≠ 51 ∧ t ≠ 52 ∧ t ≠ 111 ∧ t ≠ 46)) with rfl | rfl | rfl | rfl | rfl | rfl | rfl | ht7
      · refine A_skip ?_; refine T_n ?_; refine A_seq ?_; refine A_block ?_; refine A_seq ?_; refine A_region ?_; refine M0 (q_moveC rfl rfl rfl) rfl rfl ?_
        refine M0 (q_geqK (b := false) rfl rfl rfl rfl (by decide)) rfl rfl ?_; refine M0 (q_moveC rfl rfl rfl) rfl rfl ?_; refine M_no rfl rfl rfl rfl rfl rfl ?_
        refine M_no rfl rfl rfl rfl rfl rfl ?_; refine M0 (q_pickF rfl rfl rfl rfl) rfl rfl ?_; refine M0 (q_assignC rfl rfl rfl) rfl rfl ?_; refine L_nil ?_; refine T_n ?_; refine A_ifF rfl ?_
        refine A_seq ?_; refine A_region ?_; refine M0 (q_moveC rfl rfl rfl) rfl rfl ?_; refine M0 (q_neqK (b := false) rfl rfl rfl rfl (by decide)) rfl rfl ?_
        refine M0 (q_moveC rfl rfl rfl) rfl rfl ?_; refine M_no rfl rfl rfl rfl rfl rfl ?_; refine M_no rfl rfl rfl rfl rfl rfl ?_; refine M0 (q_pickF rfl rfl rfl rfl) rfl rfl ?_
        refine M0 (q_moveC rfl rfl rfl) rfl rfl ?_; refine M_no rfl rfl rfl rfl rfl rfl ?_; refine M_no rfl rfl rfl rfl rfl rfl ?_; refine M0 (q_pickF rfl rfl rfl rfl) rfl rfl ?_
        refine M0 (q_assignC rfl rfl rfl) rfl rfl ?_; refine L_nil ?_; refine T_n ?_; refine A_ifF rfl ?_; refine A_skip ?_; refine B_n ?_; refine T_n ?_; refine A_seq ?_; refine A_region ?_
        refine M0 (q_moveC rfl rfl rfl) rfl rfl ?_; refine M0 (q_neqK (b := false) rfl rfl rfl rfl (by decide)) rfl rfl ?_; refine L_nil ?_; refine T_n ?_; refine A_ifF rfl ?_; refine A_skip ?_
        refine B_n ?_; refine T_n ?_; refine A_region ?_; refine M0 (q_moveC rfl rfl rfl) rfl rfl ?_; refine M0 (q_add rfl rfl rfl rfl (by omega)) rfl rfl ?_
        refine M0 (q_assignC rfl rfl rfl) rfl rfl ?_; refine L_nil ?_; refine T_n ?_
        exact ⟨w - (c + 1), by omega, (fun (c : Nat) (u : Seen × Bool) => (⟨_, [(1, .o (.c (.ptr 0 0))), (3, I w), (4, .o (.c (.ptr 1 0))), (5, B u.2), (6, I k), (7, S rows[k]), (8, I c), (33, L rows), (34, I (els rows).length), (35, I k)], [.box [.rd [] (sl rows)], .box [vb false, vb u.1.1, vb u.1.2.1, vb u.1.2.2.1, vb u.1.2.2.2]]⟩ : St)) (c + 1) (((sa, sb, sc, sd), so)), W_go [0, 1] (by decide) rfl (rfl) (.cons rfl (.cons rfl (.cons rfl (.cons rfl (.cons rfl (.cons rfl (.cons rfl (.cons rfl (.cons rfl (.cons rfl (.nil))))))))))), c + 1, ((sa, sb, sc, sd), so), by omega, hcn.trans (by simp [tileM]), rfl⟩
      · refine A_skip ?_; refine T_n ?_; refine A_seq ?_; refine A_block ?_; refine A_seq ?_; refine A_region ?_; refine M0 (q_moveC rfl rfl rfl) rfl rfl ?_
        refine M0 (q_geqK (b := true) rfl rfl rfl rfl (by decide)) rfl rfl ?_; refine M0 (q_moveC rfl rfl rfl) rfl rfl ?_; refine M_yes rfl rfl rfl ?_; refine M0 (q_moveC rfl rfl rfl) rfl rfl ?_
        refine M_yes rfl rfl rfl ?_; refine M0 (q_leqK (b := true) rfl rfl rfl rfl (by decide)) rfl rfl ?_; refine M0 (q_pickT rfl rfl rfl rfl) rfl rfl ?_
        refine M0 (q_assignC rfl rfl rfl) rfl rfl ?_; refine L_nil ?_; refine T_n ?_; refine A_ifT rfl ?_; refine A_seq ?_; refine A_seq ?_; refine A_region ?_
        refine M0 (q_moveC rfl rfl rfl) rfl rfl ?_; refine M0 (q_sub8 rfl rfl rfl rfl (by omega)) rfl rfl ?_; refine M0 (q_aidx rfl rfl rfl rfl (by omega)) rfl rfl ?_
        refine M0 (q_ld1 rfl rfl rfl rfl rfl) rfl rfl ?_; refine L_nil ?_; refine T_n ?_
        refine A_cond rfl (fun h8 => ?_) (fun h8 => ?_)
        · have h8 : sa = true := h8
          subst h8
          refine A_seq ?_; refine A_region ?_; refine M0 (q_assignC rfl rfl rfl) rfl rfl ?_; refine L_nil ?_; refine T_n ?_; refine A_ret ?_; refine T_r ?_; refine B_r ?_; refine T_r ?_; refine B_r ?_
          refine T_r ?_; refine T_r ?_; refine B_r ?_; refine B_r ?_; refine T_r ?_; refine T_r ?_; refine B_r ?_; refine T_r ?_; refine F_r ?_
          exact E_tmp rfl rfl (W_end [] (by decide) rfl rfl (B_eq (hbad (hcn.trans (by simp [tileM]))).symm))
        · have h8 : sa = false := h8
          subst h8
          refine A_skip ?_; refine T_n ?_; refine A_region ?_; refine M0 (q_moveC rfl rfl rfl) rfl rfl ?_; refine M0 (q_sub8 rfl rfl rfl rfl (by omega)) rfl rfl ?_
          refine M0 (q_aidx rfl rfl rfl rfl (by omega)) rfl rfl ?_; refine M_st1 rfl rfl rfl rfl rfl rfl rfl rfl ?_; refine L_nil ?_; refine B_n ?_; refine T_n ?_; refine A_seq ?_; refine A_region ?_
          refine M0 (q_moveC rfl rfl rfl) rfl rfl ?_; refine M0 (q_neqK (b := true) rfl rfl rfl rfl (by decide)) rfl rfl ?_; refine L_nil ?_; refine T_n ?_; refine A_ifT rfl ?_; refine A_region ?_
          refine M0 (q_assignC rfl rfl rfl) rfl rfl ?_; refine L_nil ?_; refine B_n ?_; refine T_n ?_; refine A_region ?_; refine M0 (q_moveC rfl rfl rfl) rfl rfl ?_
          refine M0 (q_add rfl rfl rfl rfl (by omega)) rfl rfl ?_; refine M0 (q_assignC rfl rfl rfl) rfl rfl ?_; refine L_nil ?_; refine T_n ?_
          exact ⟨w - (c + 1), by omega, (fun (c : Nat) (u : Seen × Bool) => (⟨_, [(1, .o (.c (.ptr 0 0))), (3, I w), (4, .o (.c (.ptr 1 0))), (5, B u.2), (6, I k), (7, S rows[k]), (8, I c), (33, L rows), (34, I (els rows).length), (35, I k)], [.box [.rd [] (sl rows)], .box [vb false, vb u.1.1, vb u.1.2.1, vb u.1.2.2.1, vb u.1.2.2.2]]⟩ : St)) (c + 1) (((true, sb, sc, sd), true)), W_go [0, 1] (by decide) rfl (rfl) (.cons rfl (.cons rfl (.cons rfl (.cons rfl (.cons rfl (.cons rfl (.cons rfl (.cons rfl (.cons rfl (.cons rfl (.nil))))))))))), c + 1, ((true, sb, sc, sd), true), by omega, hcn.trans (by simp [tileM]), rfl⟩
      · refine A_skip ?_; refine T_n ?_; refine A_seq ?_; refine A_block ?_; refine A_seq ?_; refine A_region ?_; refine M0 (q_moveC rfl rfl rfl) rfl rfl ?_
        refine M0 (q_geqK (b := true) rfl rfl rfl rfl (by decide)) rfl rfl ?_; refine M0 (q_moveC rfl rfl rfl) rfl rfl ?_; refine M_yes rfl rfl rfl ?_; refine M0 (q_moveC rfl rfl rfl) rfl rfl ?_
        refine M_yes rfl rfl rfl ?_; refine M0 (q_leqK (b := true) rfl rfl rfl rfl (by decide)) rfl rfl ?_; refine M0 (q_pickT rfl rfl rfl rfl) rfl rfl ?_
        refine M0 (q_assignC rfl rfl rfl) rfl rfl ?_; refine L_nil ?_; refine T_n ?_; refine A_ifT rfl ?_; refine A_seq ?_; refine A_seq ?_; refine A_region ?_
        refine M0 (q_moveC rfl rfl rfl) rfl rfl ?_; refine M0 (q_sub8 rfl rfl rfl rfl (by omega)) rfl rfl ?_; refine M0 (q_aidx rfl rfl rfl rfl (by omega)) rfl rfl ?_
        refine M0 (q_ld1 rfl rfl rfl rfl rfl) rfl rfl ?_; refine L_nil ?_; refine T_n ?_
        refine A_cond rfl (fun h8 => ?_) (fun h8 => ?_)
        · have h8 : sb = true := h8
          subst h8
          refine A_seq ?_; refine A_region ?_; refine M0 (q_assignC rfl rfl rfl) rfl rfl ?_; refine L_nil ?_; refine T_n ?_; refine A_ret ?_; refine T_r ?_; refine B_r ?_; refine T_r ?_; refine B_r ?_
          refine T_r ?_; refine T_r ?_; refine B_r ?_; refine B_r ?_; refine T_r ?_; refine T_r ?_; refine B_r ?_; refine T_r ?_; refine F_r ?_
          exact E_tmp rfl rfl (W_end [] (by decide) rfl rfl (B_eq (hbad (hcn.trans (by simp [tileM]))).symm))
        · have h8 : sb = false := h8
          subst h8
          refine A_skip ?_; refine T_n ?_; refine A_region ?_; refine M0 (q_moveC rfl rfl rfl) rfl rfl ?_; refine M0 (q_sub8 rfl rfl rfl rfl (by omega)) rfl rfl ?_
          refine M0 (q_aidx rfl rfl rfl rfl (by omega)) rfl rfl ?_; refine M_st1 rfl rfl rfl rfl rfl rfl rfl rfl ?_; refine L_nil ?_; refine B_n ?_; refine T_n ?_; refine A_seq ?_; refine A_region ?_
          refine M0 (q_moveC rfl rfl rfl) rfl rfl ?_; refine M0 (q_neqK (b := true) rfl rfl rfl rfl (by decide)) rfl rfl ?_; refine L_nil ?_; refine T_n ?_; refine A_ifT rfl ?_; refine A_region ?_
          refine M0 (q_assignC rfl rfl rfl) rfl rfl ?_; refine L_nil ?_; refine B_n ?_; refine T_n ?_; refine A_region ?_; refine M0 (q_moveC rfl rfl rfl) rfl rfl ?_
          refine M0 (q_add rfl rfl rfl rfl (by omega)) rfl rfl ?_; refine M0 (q_assignC rfl rfl rfl) rfl rfl ?_; refine L_nil ?_; refine T_n ?_
          exact ⟨w - (c + 1), by omega, (fun (c : Nat) (u : Seen × Bool) => (⟨_, [(1, .o (.c (.ptr 0 0))), (3, I w), (4, .o (.c (.ptr 1 0))), (5, B u.2), (6, I k), (7, S rows[k]), (8, I c), (33, L rows), (34, I (els rows).length), (35, I k)], [.box [.rd [] (sl rows)], .box [vb false, vb u.1.1, vb u.1.2.1, vb u.1.2.2.1, vb u.1.2.2.2]]⟩ : St)) (c + 1) (((sa, true, sc, sd), true)), W_go [0, 1] (by decide) rfl (rfl) (.cons rfl (.cons rfl (.cons rfl (.cons rfl (.cons rfl (.cons rfl (.cons rfl (.cons rfl (.cons rfl (.cons rfl (.nil))))))))))), c + 1, ((sa, true, sc, sd), true), by omega, hcn.trans (by simp [tileM]), rfl⟩
      · refine A_skip ?_; refine T_n ?_; refine A_seq ?_; refine A_block ?_; refine A_seq ?_; refine A_region ?_; refine M0 (q_moveC rfl rfl rfl) rfl rfl ?_
        refine M0 (q_geqK (b := true) rfl rfl rfl rfl (by decide)) rfl rfl ?_; refine M0 (q_moveC rfl rfl rfl) rfl rfl ?_; refine M_yes rfl rfl rfl ?_; refine M0 (q_moveC rfl rfl rfl) rfl rfl ?_
        refine M_yes rfl rfl rfl ?_; refine M0 (q_leqK (b := true) rfl rfl rfl rfl (by decide)) rfl rfl ?_; refine M0 (q_pickT rfl rfl rfl rfl) rfl rfl ?_
        refine M0 (q_assignC rfl rfl rfl) rfl rfl ?_; refine L_nil ?_; refine T_n ?_; refine A_ifT rfl ?_; refine A_seq ?_; refine A_seq ?_; refine A_region ?_
        refine M0 (q_moveC rfl rfl rfl) rfl rfl ?_; refine M0 (q_sub8 rfl rfl rfl rfl (by omega)) rfl rfl ?_; refine M0 (q_aidx rfl rfl rfl rfl (by omega)) rfl rfl ?_
        refine M0 (q_ld1 rfl rfl rfl rfl rfl) rfl rfl ?_; refine L_nil ?_; refine T_n ?_
        refine A_cond rfl (fun h8 => ?_) (fun h8 => ?_)
        · have h8 : sc = true := h8
          subst h8
          refine A_seq ?_; refine A_region ?_; refine M0 (q_assignC rfl rfl rfl) rfl rfl ?_; refine L_nil ?_; refine T_n ?_; refine A_ret ?_; refine T_r ?_; refine B_r ?_; refine T_r ?_; refine B_r ?_
          refine T_r ?_; refine T_r ?_; refine B_r ?_; refine B_r ?_; refine T_r ?_; refine T_r ?_; refine B_r ?_; refine T_r ?_; refine F_r ?_
          exact E_tmp rfl rfl (W_end [] (by decide) rfl rfl (B_eq (hbad (hcn.trans (by simp [tileM]))).symm))
        · have h8 : sc = false := h8
          subst h8
          refine A_skip ?_; refine T_n ?_; refine A_region ?_; refine M0 (q_moveC rfl rfl rfl) rfl rfl ?_; refine M0 (q_sub8 rfl rfl rfl rfl (by omega)) rfl rfl ?_
          refine M0 (q_aidx rfl rfl rfl rfl (by omega)) rfl rfl ?_; refine M_st1 rfl rfl rfl rfl rfl rfl rfl rfl ?_; refine L_nil ?_; refine B_n ?_; refine T_n ?_; refine A_seq ?_; refine A_region ?_
          refine M0 (q_moveC rfl rfl rfl) rfl rfl ?_; refine M0 (q_neqK (b := true) rfl rfl rfl rfl (by decide)) rfl rfl ?_; refine L_nil ?_; refine T_n ?_; refine A_ifT rfl ?_; refine A_region ?_
          refine M0 (q_assignC rfl rfl rfl) rfl rfl ?_; refine L_nil ?_; refine B_n ?_; refine T_n ?_; refine A_region ?_; refine M0 (q_moveC rfl rfl rfl) rfl rfl ?_
          refine M0 (q_add rfl rfl rfl rfl (by omega)) rfl rfl ?_; refine M0 (q_assignC rfl rfl rfl) rfl rfl ?_; refine L_nil ?_; refine T_n ?_
          exact ⟨w - (c + 1), by omega, (fun (c : Nat) (u : Seen × Bool) => (⟨_, [(1, .o (.c (.ptr 0 0))), (3, I w), (4, .o (.c (.ptr 1 0))), (5, B u.2), (6, I k), (7, S rows[k]), (8, I c), (33, L rows), (34, I (els rows).length), (35, I k)], [.box [.rd [] (sl rows)], .box [vb false, vb u.1.1, vb u.1.2.1, vb u.1.2.2.1, vb u.1.2.2.2]]⟩ : St)) (c + 1) (((sa, sb, true, sd), true)), W_go [0, 1] (by decide) rfl (rfl) (.cons rfl (.cons rfl (.cons rfl (.cons rfl (.cons rfl (.cons rfl (.cons rfl (.cons rfl (.cons rfl (.cons rfl (.nil))))))))))), c + 1, ((sa, sb, true, sd), true), by omega, hcn.trans (by simp [tileM]), rfl⟩
      · refine A_skip ?_; refine T_n ?_; refine A_seq ?_; refine A_block ?_; refine A_seq ?_; refine A_region ?_; refine M0 (q_moveC rfl rfl rfl) rfl rfl ?_
        refine M0 (q_geqK (b := true) rfl rfl rfl rfl (by decide)) rfl rfl ?_; refine M0 (q_moveC rfl rfl rfl) rfl rfl ?_; refine M_yes rfl rfl rfl ?_; refine M0 (q_moveC rfl rfl rfl) rfl rfl ?_
        refine M_yes rfl rfl rfl ?_; refine M0 (q_leqK (b := true) rfl rfl rfl rfl (by decide)) rfl rfl ?_; refine M0 (q_pickT rfl rfl rfl rfl) rfl rfl ?_
        refine M0 (q_assignC rfl rfl rfl) rfl rfl ?_; refine L_nil ?_; refine T_n ?_; refine A_ifT rfl ?_; refine A_seq ?_; refine A_seq ?_; refine A_region ?_
        refine M0 (q_moveC rfl rfl rfl) rfl rfl ?_; refine M0 (q_sub8 rfl rfl rfl rfl (by omega)) rfl rfl ?_; refine M0 (q_aidx rfl rfl rfl rfl (by omega)) rfl rfl ?_
        refine M0 (q_ld1 rfl rfl rfl rfl rfl) rfl rfl ?_; refine L_nil ?_; refine T_n ?_
        refine A_cond rfl (fun h8 => ?_) (fun h8 => ?_)
        · have h8 : sd = true := h8
          subst h8
          refine A_seq ?_; refine A_region ?_; refine M0 (q_assignC rfl rfl rfl) rfl rfl ?_; refine L_nil ?_; refine T_n ?_; refine A_ret ?_; refine T_r ?_; refine B_r ?_; refine T_r ?_; refine B_r ?_
          refine T_r ?_; refine T_r ?_; refine B_r ?_; refine B_r ?_; refine T_r ?_; refine T_r ?_; refine B_r ?_; refine T_r ?_; refine F_r ?_
          exact E_tmp rfl rfl (W_end [] (by decide) rfl rfl (B_eq (hbad (hcn.trans (by simp [tileM]))).symm))
        · have h8 : sd = false := h8
          subst h8
          refine A_skip ?_; refine T_n ?_; refine A_region ?_; refine M0 (q_moveC rfl rfl rfl) rfl rfl ?_; refine M0 (q_sub8 rfl rfl rfl rfl (by omega)) rfl rfl ?_
          refine M0 (q_aidx rfl rfl rfl rfl (by omega)) rfl rfl ?_; refine M_st1 rfl rfl rfl rfl rfl rfl rfl rfl ?_; refine L_nil ?_; refine B_n ?_; refine T_n ?_; refine A_seq ?_; refine A_region ?_
          refine M0 (q_moveC rfl rfl rfl) rfl rfl ?_; refine M0 (q_neqK (b := true) rfl rfl rfl rfl (by decide)) rfl rfl ?_; refine L_nil ?_; refine T_n ?_; refine A_ifT rfl ?_; refine A_region ?_
          refine M0 (q_assignC rfl rfl rfl) rfl rfl ?_; refine L_nil ?_; refine B_n ?_; refine T_n ?_; refine A_region ?_; refine M0 (q_moveC rfl rfl rfl) rfl rfl ?_
          refine M0 (q_add rfl rfl rfl rfl (by omega)) rfl rfl ?_; refine M0 (q_assignC rfl rfl rfl) rfl rfl ?_; refine L_nil ?_; refine T_n ?_
          exact ⟨w - (c + 1), by omega, (fun (c : Nat) (u : Seen × Bool) => (⟨_, [(1, .o (.c (.ptr 0 0))), (3, I w), (4, .o (.c (.ptr 1 0))), (5, B u.2), (6, I k), (7, S rows[k]), (8, I c), (33, L rows), (34, I (els rows).length), (35, I k)], [.box [.rd [] (sl rows)], .box [vb false, vb u.1.1, vb u.1.2.1, vb u.1.2.2.1, vb u.1.2.2.2]]⟩ : St)) (c + 1) (((sa, sb, sc, true), true)), W_go [0, 1] (by decide) rfl (rfl) (.cons rfl (.cons rfl (.cons rfl (.cons rfl (.cons rfl (.cons rfl (.cons rfl (.cons rfl (.cons rfl (.cons rfl (.nil))))))))))), c + 1, ((sa, sb, sc, true), true), by omega, hcn.trans (by simp [tileM]), rfl⟩
      · refine A_skip ?_; refine T_n ?_; refine A_seq ?_; refine A_block ?_; refine A_seq ?_; refine A_region ?_; refine M0 (q_moveC rfl rfl rfl) rfl rfl ?_
        refine M0 (q_geqK (b := true) rfl rfl rfl rfl (by decide)) rfl rfl ?_; refine M0 (q_moveC rfl rfl rfl) rfl rfl ?_; refine M_yes rfl rfl rfl ?_; refine M0 (q_moveC rfl rfl rfl) rfl rfl ?_
        refine M_yes rfl rfl rfl ?_; refine M0 (q_leqK (b := false) rfl rfl rfl rfl (by decide)) rfl rfl ?_; refine M0 (q_pickT rfl rfl rfl rfl) rfl rfl ?_
        refine M0 (q_assignC rfl rfl rfl) rfl rfl ?_; refine L_nil ?_; refine T_n ?_; refine A_ifF rfl ?_; refine A_seq ?_; refine A_region ?_; refine M0 (q_moveC rfl rfl rfl) rfl rfl ?_
        refine M0 (q_neqK (b := true) rfl rfl rfl rfl (by decide)) rfl rfl ?_; refine M0 (q_moveC rfl rfl rfl) rfl rfl ?_; refine M_yes rfl rfl rfl ?_; refine M0 (q_moveC rfl rfl rfl) rfl rfl ?_
        refine M_yes rfl rfl rfl ?_; refine M0 (q_neqK (b := false) rfl rfl rfl rfl (by decide)) rfl rfl ?_; refine M0 (q_pickT rfl rfl rfl rfl) rfl rfl ?_
        refine M0 (q_moveC rfl rfl rfl) rfl rfl ?_; refine M_no rfl rfl rfl rfl rfl rfl ?_; refine M_no rfl rfl rfl rfl rfl rfl ?_; refine M0 (q_pickF rfl rfl rfl rfl) rfl rfl ?_
        refine M0 (q_assignC rfl rfl rfl) rfl rfl ?_; refine L_nil ?_; refine T_n ?_; refine A_ifF rfl ?_; refine A_skip ?_; refine B_n ?_; refine T_n ?_; refine A_seq ?_; refine A_region ?_
        refine M0 (q_moveC rfl rfl rfl) rfl rfl ?_; refine M0 (q_neqK (b := true) rfl rfl rfl rfl (by decide)) rfl rfl ?_; refine L_nil ?_; refine T_n ?_; refine A_ifT rfl ?_; refine A_region ?_
        refine M0 (q_assignC rfl rfl rfl) rfl rfl ?_; refine L_nil ?_; refine B_n ?_; refine T_n ?_; refine A_region ?_; refine M0 (q_moveC rfl rfl rfl) rfl rfl ?_
        refine M0 (q_add rfl rfl rfl rfl (by omega)) rfl rfl ?_; refine M0 (q_assignC rfl rfl rfl) rfl rfl ?_; refine L_nil ?_; refine T_n ?_
        exact ⟨w - (c + 1), by omega, (fun (c : Nat) (u : Seen × Bool) => (⟨_, [(1, .o (.c (.ptr 0 0))), (3, I w), (4, .o (.c (.ptr 1 0))), (5, B u.2), (6, I k), (7, S rows[k]), (8, I c), (33, L rows), (34, I (els rows).length), (35, I k)], [.box [.rd [] (sl rows)], .box [vb false, vb u.1.1, vb u.1.2.1, vb u.1.2.2.1, vb u.1.2.2.2]]⟩ : St)) (c + 1) (((sa, sb, sc, sd), true)), W_go [0, 1] (by decide) rfl (rfl) (.cons rfl (.cons rfl (.cons rfl (.cons rfl (.cons rfl (.cons rfl (.cons rfl (.cons rfl (.cons rfl (.cons rfl (.nil))))))))))), c + 1, ((sa, sb, sc, sd), true), by omega, hcn.trans (by simp [tileM]), rfl⟩
      · refine A_skip ?_; refine T_n ?_; refine A_seq ?_; refine A_block ?_; refine A_seq ?_; refine A_region ?_; refine M0 (q_moveC rfl rfl rfl) rfl rfl ?_
        refine M0 (q_geqK (b := false) rfl rfl rfl rfl (by decide)) rfl rfl ?_; refine M0 (q_moveC rfl rfl rfl) rfl rfl ?_; refine M_no rfl rfl rfl rfl rfl rfl ?_
        refine M_no rfl rfl rfl rfl rfl rfl ?_; refine M0 (q_pickF rfl rfl rfl rfl) rfl rfl ?_; refine M0 (q_assignC rfl rfl rfl) rfl rfl ?_; refine L_nil ?_; refine T_n ?_; refine A_ifF rfl ?_
        refine A_seq ?_; refine A_region ?_; refine M0 (q_moveC rfl rfl rfl) rfl rfl ?_; refine M0 (q_neqK (b := true) rfl rfl rfl rfl (by decide)) rfl rfl ?_
        refine M0 (q_moveC rfl rfl rfl) rfl rfl ?_; refine M_yes rfl rfl rfl ?_; refine M0 (q_moveC rfl rfl rfl) rfl rfl ?_; refine M_yes rfl rfl rfl ?_
        refine M0 (q_neqK (b := true) rfl rfl rfl rfl (by decide)) rfl rfl ?_; refine M0 (q_pickT rfl rfl rfl rfl) rfl rfl ?_; refine M0 (q_moveC rfl rfl rfl) rfl rfl ?_
        refine M_yes rfl rfl rfl ?_; refine M0 (q_moveC rfl rfl rfl) rfl rfl ?_; refine M_yes rfl rfl rfl ?_; refine M0 (q_neqK (b := false) rfl rfl rfl rfl (by decide)) rfl rfl ?_
        refine M0 (q_pickT rfl rfl rfl rfl) rfl rfl ?_; refine M0 (q_assignC rfl rfl rfl) rfl rfl ?_; refine L_nil ?_; refine T_n ?_; refine A_ifF rfl ?_; refine A_skip ?_; refine B_n ?_; refine T_n ?_
        refine A_seq ?_; refine A_region ?_; refine M0 (q_moveC rfl rfl rfl) rfl rfl ?_; refine M0 (q_neqK (b := true) rfl rfl rfl rfl (by decide)) rfl rfl ?_; refine L_nil ?_; refine T_n ?_
        refine A_ifT rfl ?_; refine A_region ?_; refine M0 (q_assignC rfl rfl rfl) rfl rfl ?_; refine L_nil ?_; refine B_n ?_; refine T_n ?_; refine A_region ?_
        refine M0 (q_moveC rfl rfl rfl) rfl rfl ?_; refine M0 (q_add rfl rfl rfl rfl (by omega)) rfl rfl ?_; refine M0 (q_assignC rfl rfl rfl) rfl rfl ?_; refine L_nil ?_; refine T_n ?_
        exact ⟨w - (c + 1), by omega, (fun (c : Nat) (u : Seen × Bool) => (⟨_, [(1, .o (.c (.ptr 0 0))), (3, I w), (4, .o (.c (.ptr 1 0))), (5, B u.2), (6, I k), (7, S rows[k]), (8, I c), (33, L rows), (34, I (els rows).length), (35, I k)], [.box [.rd [] (sl rows)], .box [vb false, vb u.1.1, vb u.1.2.1, vb u.1.2.2.1, vb u.1.2.2.2]]⟩ : St)) (c + 1) (((sa, sb, sc, sd), true)), W_go [0, 1] (by decide) rfl (rfl) (.cons rfl (.cons rfl (.cons rfl (.cons rfl (.cons rfl (.cons rfl (.cons rfl (.cons rfl (.cons rfl (.cons rfl (.nil))))))))))), c + 1, ((sa, sb, sc, sd), true), by omega, hcn.trans (by simp [tileM]), rfl⟩
      · refine A_skip ?_; refine T_n ?_; refine A_seq ?_; refine A_block ?_; refine A_seq ?_; refine A_region ?_; refine M0 (q_moveC rfl rfl rfl) rfl rfl ?_; refine M0 (q_geq rfl rfl rfl rfl) rfl rfl ?_
        refine M0 (q_moveC rfl rfl rfl) rfl rfl ?_; refine M0 (Qt.grdT rfl rfl rfl .stop (fun hgrd => q_moveC rfl rfl rfl)) rfl rfl ?_
        refine M0 (Qt.grdT rfl rfl rfl (.hit .stop) (fun hgrd => q_leq rfl rfl rfl rfl)) rfl rfl ?_; refine M0 (q_and rfl rfl rfl rfl) rfl rfl ?_; refine M0 (q_assignC rfl rfl rfl) rfl rfl ?_
        refine L_nil ?_; refine T_n ?_
        refine A_cond rfl (fun h8 => ?_) (fun h8 => ?_)
        · simp only [Bool.and_eq_true, decide_eq_true_eq] at h8
          omega
        refine A_seq ?_; refine A_region ?_; refine M0 (q_moveC rfl rfl rfl) rfl rfl ?_; refine M0 (q_neq rfl rfl rfl rfl) rfl rfl ?_; refine M0 (q_moveC rfl rfl rfl) rfl rfl ?_
        refine M0 (Qt.grdT rfl rfl rfl .stop (fun hgrd => q_moveC rfl rfl rfl)) rfl rfl ?_; refine M0 (Qt.grdT rfl rfl rfl (.hit .stop) (fun hgrd => q_neq rfl rfl rfl rfl)) rfl rfl ?_
        refine M0 (q_and rfl rfl rfl rfl) rfl rfl ?_; refine M0 (q_moveC rfl rfl rfl) rfl rfl ?_; refine M0 (Qt.grdT rfl rfl rfl .stop (fun hgrd => q_moveC rfl rfl rfl)) rfl rfl ?_
        refine M0 (Qt.grdT rfl rfl rfl (.hit .stop) (fun hgrd => q_neq rfl rfl rfl rfl)) rfl rfl ?_; refine M0 (q_and rfl rfl rfl rfl) rfl rfl ?_; refine M0 (q_assignC rfl rfl rfl) rfl rfl ?_
        refine L_nil ?_; refine T_n ?_
        refine A_cond rfl (fun h9 => ?_) (fun h9 => ?_)
        · refine A_seq ?_; refine A_region ?_; refine M0 (q_assignC rfl rfl rfl) rfl rfl ?_; refine L_nil ?_; refine T_n ?_; refine A_ret ?_; refine B_r ?_; refine T_r ?_; refine B_r ?_; refine T_r ?_
          refine T_r ?_; refine B_r ?_; refine B_r ?_; refine T_r ?_; refine T_r ?_; refine B_r ?_; refine T_r ?_; refine F_r ?_
          exact E_tmp rfl rfl (W_end [] (by decide) rfl rfl (B_eq (hbad (hcn.trans (by simp [tileM, ht7]))).symm))
        · simp only [Bool.and_eq_false_iff, decide_eq_false_iff_not, Classical.not_not] at h9
          omega
    · have h5 : c = w := by have := of_decide_eq_false h5; omega
      rw [h5] at hp_D
      rw [hp_D] at hrn
      refine A_exit ?_; refine T_x ?_; refine T_x ?_; refine B_xs ?_; refine B_n ?_; refine T_n ?_; refine A_region ?_; refine M0 (q_add rfl rfl rfl rfl (by omega)) rfl rfl ?_
      refine M0 (q_moveC rfl rfl rfl) rfl rfl ?_; refine L_nil ?_; refine T_n ?_
      exact ⟨rows.length - (k + 1), by omega, (fun (k : Nat) (s : Seen × Bool) => (⟨_, [(1, .o (.c (.ptr 0 0))), (3, I w), (4, .o (.c (.ptr 1 0))), (5, B s.2), (33, L rows), (34, I (els rows).length), (35, I k)], [.box [.rd [] (sl rows)], .box [vb false, vb s.1.1, vb s.1.2.1, vb s.1.2.2.1, vb s.1.2.2.2]]⟩ : St)) (k + 1) (u), W_go [0, 1] (by decide) rfl (rfl) (.cons rfl (.cons rfl (.cons rfl (.cons rfl (.cons rfl (.cons rfl (.cons rfl (.nil)))))))), k + 1, u, by omega, hrn, rfl⟩
  · have h3 : ¬ ((k : Int) < (els rows).length) := of_decide_eq_false h
    have hk : k = rows.length := by omega
    subst hk
    refine A_exit ?_; refine T_x ?_; refine T_x ?_; refine B_xs ?_; refine T_n ?_; refine A_seq ?_; refine A_region ?_; refine M0 (q_moveC rfl rfl rfl) rfl rfl ?_
    refine M0 (q_assignC rfl rfl rfl) rfl rfl ?_; refine L_nil ?_; refine T_n ?_; refine A_ret ?_; refine F_r ?_
    exact E_tmp rfl rfl (W_end [] (by decide) rfl rfl (B_eq (by
      unfold levelOk
      rw [hw, hp_A]
      have : 3 ≤ rows.length ∧ rows.length ≤ 12 ∧ 4 ≤ w ∧ w ≤ 20 := by omega
      simp [this])))
end Go.Proofs.Ytbpebmolbdplmaa
end

section
set_option linter.unusedSimpArgs false
set_option linter.unusedVariables false
namespace Go.Proofs.Ytbpebmolbdplmaa
open Go.RowKit

set_option maxHeartbeats 4000000 in
theorem S_LevelOk (x : TLevel) (hg : Enc.gd x) : Con Try.prog 116 [] [ag x] [] (B (levelOk x)) := by
  obtain ⟨rows⟩ := x
  have hn : Enc.gd rows := hg
  have hn1 := hn.1
  have hlx := els_len rows
  refine Con.of Try.func116 rfl Try.ntmps116 rfl (fun E => ?_)
  refine A_seq ?_; refine A_region ?_; refine M1 (q_boxN rfl rfl rfl rfl) rfl rfl ?_; refine M0 (q_assignC rfl rfl rfl) rfl rfl ?_; refine L_nil ?_; refine T_n ?_; refine A_seq ?_; refine A_seq ?_
  refine A_region ?_; refine M0 (q_fldp rfl rfl rfl rfl (by decide)) rfl rfl ?_; refine M0 (q_ld1 rfl rfl rfl rfl rfl) rfl rfl ?_; refine M0 (q_len rfl rfl rfl) rfl rfl ?_
  refine M0 (q_call0 rfl rfl (S_in (els rows).length 3 12) rfl) rfl rfl ?_; refine M0 (q_not rfl rfl rfl) rfl rfl ?_; refine L_nil ?_; refine T_n ?_
  refine A_cond rfl (fun h => ?_) (fun h => ?_)
  · refine A_seq ?_; refine A_region ?_; refine M0 (q_assignC rfl rfl rfl) rfl rfl ?_; refine L_nil ?_; refine T_n ?_; refine A_ret ?_; refine T_r ?_; refine F_r ?_
    exact E_tmp rfl rfl (W_end [] (by decide) rfl rfl (B_eq (by simp [inR] at h; simp [levelOk]; omega)))
  have h : 3 ≤ rows.length ∧ rows.length ≤ 12 := by simp [inR] at h; omega
  have h0 : 0 < rows.length := by omega
  have hat0 : (els rows)[(0 : Int).toNat]? = some (Enc.e rows[0]) := els_at h0
  have hw := width_at h0
  obtain ⟨w, hw'⟩ : ∃ w, w = rows[0].size := ⟨_, rfl⟩
  rw [← hw'] at hw
  have hg0 : rows[0].size ≤ 9223372036854775807 := hn.2 _ (List.getElem_mem h0)
  refine A_skip ?_; refine T_n ?_; refine A_seq ?_; refine A_region ?_; refine M0 (q_fldp rfl rfl rfl rfl (by decide)) rfl rfl ?_; refine M0 (q_ld1 rfl rfl rfl rfl rfl) rfl rfl ?_
  refine M0 (q_at rfl rfl rfl rfl (by omega) (by assumption) rfl) rfl rfl ?_; refine M0 (q_lr1 rfl rfl rfl rfl) rfl rfl ?_; refine M0 (q_lens rfl rfl rfl) rfl rfl ?_
  refine M0 (q_assignC rfl rfl rfl) rfl rfl ?_; refine L_nil ?_; refine T_n ?_; refine A_seq ?_; refine A_region ?_; refine M0 (q_assignC rfl rfl rfl) rfl rfl ?_; refine L_nil ?_; refine T_n ?_
  refine A_seq ?_; refine A_region ?_; refine M1 (q_bslice rfl rfl rfl rfl rfl rfl) rfl rfl ?_; refine M0 (q_assignC rfl rfl rfl) rfl rfl ?_; refine L_nil ?_; refine T_n ?_; refine A_seq ?_
  refine A_seq ?_; refine A_region ?_; refine M0 (q_assignC rfl rfl rfl) rfl rfl ?_; refine L_nil ?_; refine T_n ?_; refine A_block ?_
  refine A_loop (fun m st => ∃ (k : Nat) (s : Seen × Bool), k + m = rows.length ∧ (rowsM rows w k = some s ∧ (0 < k → 4 ≤ w ∧ w ≤ 20)) ∧ st = (fun (k : Nat) (s : Seen × Bool) => (⟨_, [(1, .o (.c (.ptr 0 0))), (3, I w), (4, B s.2), (5, .o (.c (.sb 1 4 1))), (6, I k)], [.box [.rd [] (sl rows)], .box [vb s.1.1, vb s.1.2.1, vb s.1.2.2.1, vb s.1.2.2.2]]⟩ : St)) k s) (rows.length) ⟨(fun (k : Nat) (s : Seen × Bool) => (⟨_, [(1, .o (.c (.ptr 0 0))), (3, I w), (4, B s.2), (5, .o (.c (.sb 1 4 1))), (6, I k)], [.box [.rd [] (sl rows)], .box [vb s.1.1, vb s.1.2.1, vb s.1.2.2.1, vb s.1.2.2.2]]⟩ : St)) 0 (((false, false, false, false), false)), W_go [0, 1] (by decide) rfl (rfl) (.cons rfl (.cons (I_eq (by omega)) (.cons rfl (.cons rfl (.cons rfl (.nil)))))), 0, ((false, false, false, false), false), by omega, ⟨rfl, by omega⟩, rfl⟩ ?_
  rintro m_A _ ⟨k, s, hk_A, hp_A, rfl⟩
  refine A_seq ?_; refine A_seq ?_; refine A_region ?_; refine M0 (q_moveC rfl rfl rfl) rfl rfl ?_; refine M0 (q_fldp rfl rfl rfl rfl (by decide)) rfl rfl ?_
  refine M0 (q_ld1 rfl rfl rfl rfl rfl) rfl rfl ?_; refine M0 (q_len rfl rfl rfl) rfl rfl ?_; refine M0 (q_lss rfl rfl rfl rfl) rfl rfl ?_; refine L_nil ?_; refine T_n ?_
  refine A_cond rfl (fun h => ?_) (fun h => ?_)
  · have h3 : k < rows.length := by have := of_decide_eq_true h; omega
    have hat := els_at h3
    have hwc : ((rows[0].size : Nat) : Int) = w := by omega
    have hgk : rows[k].size ≤ 9223372036854775807 := hn.2 _ (List.getElem_mem h3)
    refine A_skip ?_; refine T_n ?_; refine A_seq ?_; refine A_block ?_; refine A_seq ?_; refine A_seq ?_; refine A_region ?_; refine M0 (q_fldp rfl rfl rfl rfl (by decide)) rfl rfl ?_
    refine M0 (q_ld1 rfl rfl rfl rfl rfl) rfl rfl ?_; refine M0 (q_moveC rfl rfl rfl) rfl rfl ?_; refine M0 (q_at rfl rfl rfl rfl (by omega) (by assumption) rfl) rfl rfl ?_
    refine M0 (q_lr1 rfl rfl rfl rfl) rfl rfl ?_; refine M0 (q_lens rfl rfl rfl) rfl rfl ?_; refine M0 (q_moveC rfl rfl rfl) rfl rfl ?_; refine M0 (q_neq rfl rfl rfl rfl) rfl rfl ?_
    refine M0 (q_moveC rfl rfl rfl) rfl rfl ?_; refine M0 (Qt.grdF rfl rfl rfl .stop (fun hgrd => q_moveC rfl rfl rfl)) rfl rfl ?_
    refine M0 (Qt.grdF rfl rfl rfl (.hit .stop) (fun hgrd => q_call0 rfl rfl (S_in w 4 20) rfl)) rfl rfl ?_
    refine M0 (Qt.grdF rfl rfl rfl (.hit (.hit .stop)) (fun hgrd => q_not rfl rfl rfl)) rfl rfl ?_; refine M0 (q_or rfl rfl rfl rfl) rfl rfl ?_; refine L_nil ?_; refine T_n ?_
    refine A_cond rfl (fun h4 => ?_) (fun h4 => ?_)
    · simp only [Bool.or_eq_true, decide_eq_true_eq, Bool.not_eq_true', inR, Bool.and_eq_false_iff, decide_eq_false_iff_not] at h4
      refine A_seq ?_; refine A_region ?_; refine M0 (q_assignC rfl rfl rfl) rfl rfl ?_; refine L_nil ?_; refine T_n ?_; refine A_ret ?_; refine T_r ?_; refine B_r ?_; refine T_r ?_; refine T_r ?_
      refine B_r ?_; refine T_r ?_; refine F_r ?_
      refine E_tmp rfl rfl (W_end [] (by decide) rfl rfl (B_eq ?_))
      by_cases h4' : rows[k].size = w
      · have : ¬ (4 ≤ w ∧ w ≤ 20) := by omega
        simp only [levelOk, hw]
        rcases Nat.lt_or_ge w 4 with h9 | h9
        · simp [show ¬ 4 ≤ w by omega]
        · simp [show ¬ w ≤ 20 by omega]
      · exact (level_no (l := ⟨rows⟩) h3 hw (rows_bad h3 h4')).symm
    simp only [Bool.or_eq_false_iff, decide_eq_false_iff_not, Bool.not_eq_false', inR, Bool.and_eq_true, decide_eq_true_eq] at h4
    have h1 : 4 ≤ w ∧ w ≤ 20 := by omega
    have h4 : rows[k].size = w := by omega
    have hrn := rows_next hp_A.1 h3 h4
    obtain ⟨er, her⟩ : ∃ er, er = (decide (k = 0) || decide (k + 1 = rows.length)) := ⟨_, rfl⟩
    rw [← her] at hrn
    refine A_skip ?_; refine T_n ?_; refine A_seq ?_; refine A_region ?_; refine M0 (q_assignC rfl rfl rfl) rfl rfl ?_; refine L_nil ?_; refine T_n ?_; refine A_block ?_
    refine A_loop (fun m st => ∃ (c : Nat) (u : Seen × Bool), c + m = w ∧ (colsM rows[k] er w s c = some u) ∧ st = (fun (c : Nat) (u : Seen × Bool) => (⟨_, [(1, .o (.c (.ptr 0 0))), (3, I w), (4, B u.2), (5, .o (.c (.sb 1 4 1))), (6, I k), (7, I c)], [.box [.rd [] (sl rows)], .box [vb u.1.1, vb u.1.2.1, vb u.1.2.2.1, vb u.1.2.2.2]]⟩ : St)) c u) (w) ⟨(fun (c : Nat) (u : Seen × Bool) => (⟨_, [(1, .o (.c (.ptr 0 0))), (3, I w), (4, B u.2), (5, .o (.c (.sb 1 4 1))), (6, I k), (7, I c)], [.box [.rd [] (sl rows)], .box [vb u.1.1, vb u.1.2.1, vb u.1.2.2.1, vb u.1.2.2.2]]⟩ : St)) 0 (s), W_go [0, 1] (by decide) rfl (rfl) (.cons rfl (.cons rfl (.cons rfl (.cons rfl (.cons rfl (.cons rfl (.nil))))))), 0, s, by omega, rfl, rfl⟩ ?_
    rintro m_D _ ⟨c, u, hk_D, hp_D, rfl⟩
    refine A_seq ?_; refine A_seq ?_; refine A_region ?_; refine M0 (q_moveC rfl rfl rfl) rfl rfl ?_; refine M0 (q_moveC rfl rfl rfl) rfl rfl ?_; refine M0 (q_lss rfl rfl rfl rfl) rfl rfl ?_
    refine L_nil ?_; refine T_n ?_
    refine A_cond rfl (fun h5 => ?_) (fun h5 => ?_)
    · have h5 : c < w := by have := of_decide_eq_true h5; omega
      have hcn := cols_next hp_D
      obtain ⟨t, ht⟩ : ∃ t, byteAt rows[k] (c : Int).toNat = t := ⟨_, rfl⟩
      rw [show byteAt rows[k] c = t from ht] at hcn
      have htb : 0 ≤ t ∧ t ≤ 255 := ht ▸ byteAt_lt _ _
      obtain ⟨⟨sa, sb, sc, sd⟩, so⟩ := u
      obtain ⟨e, he⟩ : ∃ e, e = (er || decide (c = 0) || decide (c + 1 = w)) := ⟨_, rfl⟩
      rw [← he] at hcn
      refine A_skip ?_; refine T_n ?_; refine A_seq ?_; refine A_block ?_; refine A_seq ?_; refine A_region ?_; refine M0 (q_fldp rfl rfl rfl rfl (by decide)) rfl rfl ?_
      refine M0 (q_ld1 rfl rfl rfl rfl rfl) rfl rfl ?_; refine M0 (q_moveC rfl rfl rfl) rfl rfl ?_; refine M0 (q_at rfl rfl rfl rfl (by omega) (by assumption) rfl) rfl rfl ?_
      refine M0 (q_lr1 rfl rfl rfl rfl) rfl rfl ?_; refine M0 (q_moveC rfl rfl rfl) rfl rfl ?_; refine M0 (q_byteK rfl rfl rfl rfl (by assumption) (by omega)) rfl rfl ?_
      refine M0 (q_assignC rfl rfl rfl) rfl rfl ?_; refine L_nil ?_; refine T_n ?_; refine A_seq ?_; refine A_region ?_; refine M0 (q_moveC rfl rfl rfl) rfl rfl ?_
      refine M0 (q_eql rfl rfl rfl rfl) rfl rfl ?_; refine M0 (q_moveC rfl rfl rfl) rfl rfl ?_; refine M0 (Qt.grdF rfl rfl rfl .stop (fun hgrd => q_moveC rfl rfl rfl)) rfl rfl ?_
      refine M0 (Qt.grdF rfl rfl rfl (.hit .stop) (fun hgrd => q_eql rfl rfl rfl rfl)) rfl rfl ?_; refine M0 (q_or rfl rfl rfl rfl) rfl rfl ?_; refine M0 (q_moveC rfl rfl rfl) rfl rfl ?_
      refine M0 (Qt.grdF rfl rfl rfl .stop (fun hgrd => q_moveC rfl rfl rfl)) rfl rfl ?_
      refine M0 (Qt.grdF rfl rfl rfl (.hit .stop) (fun hgrd => q_fldp rfl rfl rfl rfl (by decide))) rfl rfl ?_
      refine M0 (Qt.grdF rfl rfl rfl (.hit (.hit .stop)) (fun hgrd => q_ld1 rfl rfl rfl rfl rfl)) rfl rfl ?_
      refine M0 (Qt.grdF rfl rfl rfl (.hit (.hit (.hit .stop))) (fun hgrd => q_len rfl rfl rfl)) rfl rfl ?_
      refine M0 (Qt.grdF rfl rfl rfl (.hit (.hit (.hit (.hit .stop)))) (fun hgrd => q_sub rfl rfl rfl rfl (by omega))) rfl rfl ?_
      refine M0 (Qt.grdF rfl rfl rfl (.hit (.hit (.hit (.hit (.hit .stop))))) (fun hgrd => q_eql rfl rfl rfl rfl)) rfl rfl ?_; refine M0 (q_or rfl rfl rfl rfl) rfl rfl ?_
      refine M0 (q_moveC rfl rfl rfl) rfl rfl ?_; refine M0 (Qt.grdF rfl rfl rfl .stop (fun hgrd => q_moveC rfl rfl rfl)) rfl rfl ?_
      refine M0 (Qt.grdF rfl rfl rfl (.hit .stop) (fun hgrd => q_moveC rfl rfl rfl)) rfl rfl ?_
      refine M0 (Qt.grdF rfl rfl rfl (.hit (.hit .stop)) (fun hgrd => q_sub rfl rfl rfl rfl (by omega))) rfl rfl ?_
      refine M0 (Qt.grdF rfl rfl rfl (.hit (.hit (.hit .stop))) (fun hgrd => q_eql rfl rfl rfl rfl)) rfl rfl ?_; refine M0 (q_or rfl rfl rfl rfl) rfl rfl ?_
      refine M0 (q_assignC rfl rfl rfl) rfl rfl ?_; refine L_nil ?_; refine T_n ?_; refine A_seq ?_; refine A_block ?_; refine A_seq ?_; refine A_region ?_; refine M0 (q_moveC rfl rfl rfl) rfl rfl ?_
      refine M0 (q_eql rfl rfl rfl rfl) rfl rfl ?_; refine M0 (q_assignC rfl rfl rfl) rfl rfl ?_; refine L_nil ?_; refine T_n ?_
      have hee : (decide ((k : Int) = 0) || decide ((c : Int) = 0) || decide ((k : Int) = ((els rows).length : Int) - 1) || decide ((c : Int) = (w : Int) - 1)) = e := by
        rw [he, her, hlx]
        have g1 : decide ((k : Int) = 0) = decide (k = 0) := by simp
        have g2 : decide ((k : Int) = (rows.length : Int) - 1) = decide (k + 1 = rows.length) := decide_eq_decide.2 (by omega)
        have g3 : decide ((c : Int) = 0) = decide (c = 0) := by simp
        have g4 : decide ((c : Int) = (w : Int) - 1) = decide (c + 1 = w) := decide_eq_decide.2 (by omega)
        rw [g1, g2, g3, g4]
        cases decide (k = 0) <;> cases decide (c = 0) <;> cases decide (k + 1 = rows.length) <;> rfl
      clear he her
      have hbad : colsM rows[k] er w s (c + 1) = none → levelOk ⟨rows⟩ = false := fun hc => level_no (l := ⟨rows⟩) h3 hw (hrn.trans (cols_none hc (by omega)))
      refine AWP.pre (st' := (⟨_, [(1, .o (.c (.ptr 0 0))), (3, I w), (4, B so), (5, .o (.c (.sb 1 4 1))), (6, I k), (7, I c), (8, VI .u8 t), (9, B e), (73, B (decide (t = 35)))], [.box [.rd [] (sl rows)], .box [vb sa, vb sb, vb sc, vb sd]]⟩ : St)) ?_ (W_go [0, 1] (by decide) rfl (rfl) (.cons rfl (.cons rfl (.cons rfl (.cons rfl (.cons rfl (.cons rfl (.cons rfl (.cons (B_eq hee) (.cons rfl (.nil)))))))))))
      by_cases h7 : t = 35
      · subst h7
        refine A_ifT rfl ?_; refine A_skip ?_; refine B_n ?_; refine T_n ?_; refine A_region ?_; refine M0 (q_moveC rfl rfl rfl) rfl rfl ?_; refine M0 (q_moveC rfl rfl rfl) rfl rfl ?_
        refine M0 (Qt.grdF rfl rfl rfl .stop (fun hgrd => q_moveC rfl rfl rfl)) rfl rfl ?_
        refine M0 (Qt.grdF rfl rfl rfl (.hit .stop) (fun hgrd => q_neqK (b := false) rfl rfl rfl rfl (by decide))) rfl rfl ?_; refine M0 (q_or rfl rfl rfl rfl) rfl rfl ?_
        refine M0 (q_assignC rfl rfl rfl) rfl rfl ?_; refine L_nil ?_; refine B_n ?_; refine T_n ?_; refine A_region ?_; refine M0 (q_moveC rfl rfl rfl) rfl rfl ?_
        refine M0 (q_add rfl rfl rfl rfl (by omega)) rfl rfl ?_; refine M0 (q_assignC rfl rfl rfl) rfl rfl ?_; refine L_nil ?_; refine T_n ?_
        exact ⟨w - (c + 1), by omega, (fun (c : Nat) (u : Seen × Bool) => (⟨_, [(1, .o (.c (.ptr 0 0))), (3, I w), (4, B u.2), (5, .o (.c (.sb 1 4 1))), (6, I k), (7, I c)], [.box [.rd [] (sl rows)], .box [vb u.1.1, vb u.1.2.1, vb u.1.2.2.1, vb u.1.2.2.2]]⟩ : St)) (c + 1) (((sa, sb, sc, sd), so)), W_go [0, 1] (by decide) rfl (rfl) (.cons rfl (.cons rfl (.cons (B_eq (by simp)) (.cons rfl (.cons rfl (.cons rfl (.nil))))))), c + 1, ((sa, sb, sc, sd), so), by omega, hcn.trans (by simp [tileM]), rfl⟩
      cases e
      case true =>
        have f1 : decide (t = 35) = false := decide_eq_false h7
        refine A_cond rfl (fun h => absurd (of_decide_eq_true h) h7) (fun _ => ?_)
        refine A_seq ?_; refine A_region ?_; refine M0 (q_moveC rfl rfl rfl) rfl rfl ?_; refine M0 (q_moveC rfl rfl rfl) rfl rfl ?_; refine M_no rfl rfl rfl rfl rfl rfl ?_
        refine M_no rfl rfl rfl rfl rfl rfl ?_; refine M_no rfl rfl rfl rfl rfl rfl ?_; refine M0 (Qt.no2 rfl rfl rfl) rfl rfl ?_; refine M0 (Qt.no2 rfl rfl rfl) rfl rfl ?_
        refine M_no rfl rfl rfl rfl rfl rfl ?_; refine M_no rfl rfl rfl rfl rfl rfl ?_; refine M0 (Qt.no2 rfl rfl rfl) rfl rfl ?_; refine M0 (Qt.no2 rfl rfl rfl) rfl rfl ?_
        refine M0 (Qt.no2 rfl rfl rfl) rfl rfl ?_; refine M0 (Qt.no2 rfl rfl rfl) rfl rfl ?_; refine M0 (Qt.no2 rfl rfl rfl) rfl rfl ?_; refine M0 (Qt.no2 rfl rfl rfl) rfl rfl ?_
        refine M_no rfl rfl rfl rfl rfl rfl ?_; refine M0 (q_pickT rfl rfl rfl rfl) rfl rfl ?_; refine M0 (q_assignC rfl rfl rfl) rfl rfl ?_; refine L_nil ?_; refine T_n ?_; refine A_ifT rfl ?_
        refine A_seq ?_; refine A_region ?_; refine M0 (q_assignC rfl rfl rfl) rfl rfl ?_; refine L_nil ?_; refine T_n ?_; refine A_ret ?_; refine B_r ?_; refine T_r ?_; refine B_r ?_; refine T_r ?_
        refine T_r ?_; refine B_r ?_; refine B_r ?_; refine T_r ?_; refine T_r ?_; refine B_r ?_; refine T_r ?_; refine F_r ?_
        exact E_tmp rfl rfl (W_end [] (by decide) rfl rfl (B_eq (hbad (hcn.trans (by simp [tileM, h7]))).symm))
      refine A_cond rfl (fun h => absurd (of_decide_eq_true h) h7) (fun _ => ?_)
      rcases (by omega : t = 49 ∨ t = 50 ∨ t = 51 ∨ t = 52 ∨ t = 111 ∨ t = 46 ∨ (t ≠ 35 ∧ t ≠ 49 ∧ t ≠ 50 ∧ t ≠ 51 ∧ t ≠ 52 ∧ t ≠ 111 ∧ t ≠ 46)) with rfl | rfl | rfl | rfl | rfl | rfl | ht7
      · refine A_seq ?_; refine A_region ?_; refine M0 (q_moveC rfl rfl rfl) rfl rfl ?_; refine M0 (q_moveC rfl rfl rfl) rfl rfl ?_; refine M_yes rfl rfl rfl ?_
        refine M0 (q_moveC rfl rfl rfl) rfl rfl ?_; refine M_yes rfl rfl rfl ?_; refine M0 (q_neqK (b := true) rfl rfl rfl rfl (by decide)) rfl rfl ?_; refine M_yes rfl rfl rfl ?_
        refine M0 (q_moveC rfl rfl rfl) rfl rfl ?_; refine M_yes rfl rfl rfl ?_; refine M0 (q_moveC rfl rfl rfl) rfl rfl ?_; refine M_yes rfl rfl rfl ?_
        refine M0 (q_neqK (b := true) rfl rfl rfl rfl (by decide)) rfl rfl ?_; refine M_yes rfl rfl rfl ?_; refine M0 (q_pickT rfl rfl rfl rfl) rfl rfl ?_; refine M_yes rfl rfl rfl ?_
        refine M0 (q_moveC rfl rfl rfl) rfl rfl ?_; refine M_yes rfl rfl rfl ?_; refine M0 (q_moveC rfl rfl rfl) rfl rfl ?_; refine M_yes rfl rfl rfl ?_
        refine M0 (q_lssK rfl rfl rfl rfl (by assumption)) rfl rfl ?_; refine M_yes rfl rfl rfl ?_; refine M0 (q_moveC rfl rfl rfl) rfl rfl ?_; refine M_yes rfl rfl rfl ?_
        refine M0 (q_moveC rfl rfl rfl) rfl rfl ?_; refine M_yes rfl rfl rfl ?_; refine M0 (q_gtrK rfl rfl rfl rfl (by assumption)) rfl rfl ?_; refine M_yes rfl rfl rfl ?_
        refine M0 (q_pickF rfl rfl rfl rfl) rfl rfl ?_; refine M_yes rfl rfl rfl ?_; refine M0 (q_pickT rfl rfl rfl rfl) rfl rfl ?_; refine M0 (q_pickF rfl rfl rfl rfl) rfl rfl ?_
        refine M0 (q_assignC rfl rfl rfl) rfl rfl ?_; refine L_nil ?_; refine T_n ?_; refine A_ifF rfl ?_; refine A_seq ?_; refine A_region ?_; refine M0 (q_moveC rfl rfl rfl) rfl rfl ?_
        refine M0 (q_geqK (b := true) rfl rfl rfl rfl (by decide)) rfl rfl ?_; refine M0 (q_moveC rfl rfl rfl) rfl rfl ?_; refine M_yes rfl rfl rfl ?_; refine M0 (q_moveC rfl rfl rfl) rfl rfl ?_
        refine M_yes rfl rfl rfl ?_; refine M0 (q_leqK (b := true) rfl rfl rfl rfl (by decide)) rfl rfl ?_; refine M0 (q_pickT rfl rfl rfl rfl) rfl rfl ?_
        refine M0 (q_assignC rfl rfl rfl) rfl rfl ?_; refine L_nil ?_; refine T_n ?_; refine A_ifT rfl ?_; refine A_seq ?_; refine A_seq ?_; refine A_region ?_
        refine M0 (q_moveC rfl rfl rfl) rfl rfl ?_; refine M0 (q_moveC rfl rfl rfl) rfl rfl ?_; refine M0 (q_sub8 rfl rfl rfl rfl (by omega)) rfl rfl ?_
        refine M0 (q_sbat rfl rfl rfl rfl (by omega)) rfl rfl ?_; refine M0 (q_ld1 rfl rfl rfl rfl rfl) rfl rfl ?_; refine L_nil ?_; refine T_n ?_
        refine A_cond rfl (fun h8 => ?_) (fun h8 => ?_)
        · have h8 : sa = true := h8
          subst h8
          refine A_seq ?_; refine A_region ?_; refine M0 (q_assignC rfl rfl rfl) rfl rfl ?_; refine L_nil ?_; refine T_n ?_; refine A_ret ?_; refine T_r ?_; refine B_r ?_; refine T_r ?_; refine B_r ?_
          refine T_r ?_; refine T_r ?_; refine B_r ?_; refine B_r ?_; refine T_r ?_; refine T_r ?_; refine B_r ?_; refine T_r ?_; refine F_r ?_
          exact E_tmp rfl rfl (W_end [] (by decide) rfl rfl (B_eq (hbad (hcn.trans (by simp [tileM]))).symm))
        · have h8 : sa = false := h8
          subst h8
          refine A_skip ?_; refine T_n ?_; refine A_region ?_; refine M0 (q_moveC rfl rfl rfl) rfl rfl ?_; refine M0 (q_moveC rfl rfl rfl) rfl rfl ?_
          refine M0 (q_sub8 rfl rfl rfl rfl (by omega)) rfl rfl ?_; refine M0 (q_sbat rfl rfl rfl rfl (by omega)) rfl rfl ?_; refine M_st1 rfl rfl rfl rfl rfl rfl rfl rfl ?_; refine L_nil ?_
          refine B_n ?_; refine T_n ?_; refine A_region ?_; refine M0 (q_moveC rfl rfl rfl) rfl rfl ?_; refine M0 (q_moveC rfl rfl rfl) rfl rfl ?_
          refine M0 (Qt.grdF rfl rfl rfl .stop (fun hgrd => q_moveC rfl rfl rfl)) rfl rfl ?_
          refine M0 (Qt.grdF rfl rfl rfl (.hit .stop) (fun hgrd => q_neqK (b := true) rfl rfl rfl rfl (by decide))) rfl rfl ?_; refine M0 (q_or rfl rfl rfl rfl) rfl rfl ?_
          refine M0 (q_assignC rfl rfl rfl) rfl rfl ?_; refine L_nil ?_; refine B_n ?_; refine T_n ?_; refine A_region ?_; refine M0 (q_moveC rfl rfl rfl) rfl rfl ?_
          refine M0 (q_add rfl rfl rfl rfl (by omega)) rfl rfl ?_; refine M0 (q_assignC rfl rfl rfl) rfl rfl ?_; refine L_nil ?_; refine T_n ?_
          exact ⟨w - (c + 1), by omega, (fun (c : Nat) (u : Seen × Bool) => (⟨_, [(1, .o (.c (.ptr 0 0))), (3, I w), (4, B u.2), (5, .o (.c (.sb 1 4 1))), (6, I k), (7, I c)], [.box [.rd [] (sl rows)], .box [vb u.1.1, vb u.1.2.1, vb u.1.2.2.1, vb u.1.2.2.2]]⟩ : St)) (c + 1) (((true, sb, sc, sd), true)), W_go [0, 1] (by decide) rfl (rfl) (.cons rfl (.cons rfl (.cons (B_eq (by simp)) (.cons rfl (.cons rfl (.cons rfl (.nil))))))), c + 1, ((true, sb, sc, sd), true), by omega, hcn.trans (by simp [tileM]), rfl⟩
      · refine A_seq ?_; refine A_region ?_; refine M0 (q_moveC rfl rfl rfl) rfl rfl ?_; refine M0 (q_moveC rfl rfl rfl) rfl rfl ?_; refine M_yes rfl rfl rfl ?_
        refine M0 (q_moveC rfl rfl rfl) rfl rfl ?_; refine M_yes rfl rfl rfl ?_; refine M0 (q_neqK (b := true) rfl rfl rfl rfl (by decide)) rfl rfl ?_; refine M_yes rfl rfl rfl ?_
        refine M0 (q_moveC rfl rfl rfl) rfl rfl ?_; refine M_yes rfl rfl rfl ?_; refine M0 (q_moveC rfl rfl rfl) rfl rfl ?_; refine M_yes rfl rfl rfl ?_
        refine M0 (q_neqK (b := true) rfl rfl rfl rfl (by decide)) rfl rfl ?_; refine M_yes rfl rfl rfl ?_; refine M0 (q_pickT rfl rfl rfl rfl) rfl rfl ?_; refine M_yes rfl rfl rfl ?_
        refine M0 (q_moveC rfl rfl rfl) rfl rfl ?_; refine M_yes rfl rfl rfl ?_; refine M0 (q_moveC rfl rfl rfl) rfl rfl ?_; refine M_yes rfl rfl rfl ?_
        refine M0 (q_lssK rfl rfl rfl rfl (by assumption)) rfl rfl ?_; refine M_yes rfl rfl rfl ?_; refine M0 (q_moveC rfl rfl rfl) rfl rfl ?_; refine M_yes rfl rfl rfl ?_
        refine M0 (q_moveC rfl rfl rfl) rfl rfl ?_; refine M_yes rfl rfl rfl ?_; refine M0 (q_gtrK rfl rfl rfl rfl (by assumption)) rfl rfl ?_; refine M_yes rfl rfl rfl ?_
        refine M0 (q_pickF rfl rfl rfl rfl) rfl rfl ?_; refine M_yes rfl rfl rfl ?_; refine M0 (q_pickT rfl rfl rfl rfl) rfl rfl ?_; refine M0 (q_pickF rfl rfl rfl rfl) rfl rfl ?_
        refine M0 (q_assignC rfl rfl rfl) rfl rfl ?_; refine L_nil ?_; refine T_n ?_; refine A_ifF rfl ?_; refine A_seq ?_; refine A_region ?_; refine M0 (q_moveC rfl rfl rfl) rfl rfl ?_
        refine M0 (q_geqK (b := true) rfl rfl rfl rfl (by decide)) rfl rfl ?_; refine M0 (q_moveC rfl rfl rfl) rfl rfl ?_; refine M_yes rfl rfl rfl ?_; refine M0 (q_moveC rfl rfl rfl) rfl rfl ?_
        refine M_yes rfl rfl rfl ?_; refine M0 (q_leqK (b := true) rfl rfl rfl rfl (by decide)) rfl rfl ?_; refine M0 (q_pickT rfl rfl rfl rfl) rfl rfl ?_
        refine M0 (q_assignC rfl rfl rfl) rfl rfl ?_; refine L_nil ?_; refine T_n ?_; refine A_ifT rfl ?_; refine A_seq ?_; refine A_seq ?_; refine A_region ?_
        refine M0 (q_moveC rfl rfl rfl) rfl rfl ?_; refine M0 (q_moveC rfl rfl rfl) rfl rfl ?_; refine M0 (q_sub8 rfl rfl rfl rfl (by omega)) rfl rfl ?_
        refine M0 (q_sbat rfl rfl rfl rfl (by omega)) rfl rfl ?_; refine M0 (q_ld1 rfl rfl rfl rfl rfl) rfl rfl ?_; refine L_nil ?_; refine T_n ?_
        refine A_cond rfl (fun h8 => ?_) (fun h8 => ?_)
        · have h8 : sb = true := h8
          subst h8
          refine A_seq ?_; refine A_region ?_; refine M0 (q_assignC rfl rfl rfl) rfl rfl ?_; refine L_nil ?_; refine T_n ?_; refine A_ret ?_; refine T_r ?_; refine B_r ?_; refine T_r ?_; refine B_r ?_
          refine T_r ?_; refine T_r ?_; refine B_r ?_; refine B_r ?_; refine T_r ?_; refine T_r ?_; refine B_r ?_; refine T_r ?_; refine F_r ?_
          exact E_tmp rfl rfl (W_end [] (by decide) rfl rfl (B_eq (hbad (hcn.trans (by simp [tileM]))).symm))
        · have h8 : sb = false := h8
          subst h8
          refine A_skip ?_; refine T_n ?_; refine A_region ?_; refine M0 (q_moveC rfl rfl rfl) rfl rfl ?_; refine M0 (q_moveC rfl rfl rfl) rfl rfl ?_
          refine M0 (q_sub8 rfl rfl rfl rfl (by omega)) rfl rfl ?_; refine M0 (q_sbat rfl rfl rfl rfl (by omega)) rfl rfl ?_; refine M_st1 rfl rfl rfl rfl rfl rfl rfl rfl ?_; refine L_nil ?_
          refine B_n ?_; refine T_n ?_; refine A_region ?_; refine M0 (q_moveC rfl rfl rfl) rfl rfl ?_; refine M0 (q_moveC rfl rfl rfl) rfl rfl ?_
          refine M0 (Qt.grdF rfl rfl rfl .stop (fun hgrd => q_moveC rfl rfl rfl)) rfl rfl ?_
          refine M0 (Qt.grdF rfl rfl rfl (.hit .stop) (fun hgrd => q_neqK (b := true) rfl rfl rfl rfl (by decide))) rfl rfl ?_; refine M0 (q_or rfl rfl rfl rfl) rfl rfl ?_
          refine M0 (q_assignC rfl rfl rfl) rfl rfl ?_; refine L_nil ?_; refine B_n ?_; refine T_n ?_; refine A_region ?_; refine M0 (q_moveC rfl rfl rfl) rfl rfl ?_
          refine M0 (q_add rfl rfl rfl rfl (by omega)) rfl rfl ?_; refine M0 (q_assignC rfl rfl rfl) rfl rfl ?_; refine L_nil ?_; refine T_n ?_
          exact ⟨w - (c + 1), by omega, (fun (c : Nat) (u : Seen × Bool) => (⟨_, [(1, .o (.c (.ptr 0 0))), (3, I w), (4, B u.2), (5, .o (.c (.sb 1 4 1))), (6, I k), (7, I c)], [.box [.rd [] (sl rows)], .box [vb u.1.1, vb u.1.2.1, vb u.1.2.2.1, vb u.1.2.2.2]]⟩ : St)) (c + 1) (((sa, true, sc, sd), true)), W_go [0, 1] (by decide) rfl (rfl) (.cons rfl (.cons rfl (.cons (B_eq (by simp)) (.cons rfl (.cons rfl (.cons rfl (.nil))))))), c + 1, ((sa, true, sc, sd), true), by omega, hcn.trans (by simp [tileM]), rfl⟩
      · refine A_seq ?_; refine A_region ?_; refine M0 (q_moveC rfl rfl rfl) rfl rfl ?_; refine M0 (q_moveC rfl rfl rfl) rfl rfl ?_; refine M_yes rfl rfl rfl ?_
        refine M0 (q_moveC rfl rfl rfl) rfl rfl ?_; refine M_yes rfl rfl rfl ?_; refine M0 (q_neqK (b := true) rfl rfl rfl rfl (by decide)) rfl rfl ?_; refine M_yes rfl rfl rfl ?_
        refine M0 (q_moveC rfl rfl rfl) rfl rfl ?_; refine M_yes rfl rfl rfl ?_; refine M0 (q_moveC rfl rfl rfl) rfl rfl ?_; refine M_yes rfl rfl rfl ?_
        refine M0 (q_neqK (b := true) rfl rfl rfl rfl (by decide)) rfl rfl ?_; refine M_yes rfl rfl rfl ?_; refine M0 (q_pickT rfl rfl rfl rfl) rfl rfl ?_; refine M_yes rfl rfl rfl ?_
        refine M0 (q_moveC rfl rfl rfl) rfl rfl ?_; refine M_yes rfl rfl rfl ?_; refine M0 (q_moveC rfl rfl rfl) rfl rfl ?_; refine M_yes rfl rfl rfl ?_
        refine M0 (q_lssK rfl rfl rfl rfl (by assumption)) rfl rfl ?_; refine M_yes rfl rfl rfl ?_; refine M0 (q_moveC rfl rfl rfl) rfl rfl ?_; refine M_yes rfl rfl rfl ?_
        refine M0 (q_moveC rfl rfl rfl) rfl rfl ?_; refine M_yes rfl rfl rfl ?_; refine M0 (q_gtrK rfl rfl rfl rfl (by assumption)) rfl rfl ?_; refine M_yes rfl rfl rfl ?_
        refine M0 (q_pickF rfl rfl rfl rfl) rfl rfl ?_; refine M_yes rfl rfl rfl ?_; refine M0 (q_pickT rfl rfl rfl rfl) rfl rfl ?_; refine M0 (q_pickF rfl rfl rfl rfl) rfl rfl ?_
        refine M0 (q_assignC rfl rfl rfl) rfl rfl ?_; refine L_nil ?_; refine T_n ?_; refine A_ifF rfl ?_; refine A_seq ?_; refine A_region ?_; refine M0 (q_moveC rfl rfl rfl) rfl rfl ?_
        refine M0 (q_geqK (b := true) rfl rfl rfl rfl (by decide)) rfl rfl ?_; refine M0 (q_moveC rfl rfl rfl) rfl rfl ?_; refine M_yes rfl rfl rfl ?_; refine M0 (q_moveC rfl rfl rfl) rfl rfl ?_
        refine M_yes rfl rfl rfl ?_; refine M0 (q_leqK (b := true) rfl rfl rfl rfl (by decide)) rfl rfl ?_; refine M0 (q_pickT rfl rfl rfl rfl) rfl rfl ?_
        refine M0 (q_assignC rfl rfl rfl) rfl rfl ?_; refine L_nil ?_; refine T_n ?_; refine A_ifT rfl ?_; refine A_seq ?_; refine A_seq ?_; refine A_region ?_
        refine M0 (q_moveC rfl rfl rfl) rfl rfl ?_; refine M0 (q_moveC rfl rfl rfl) rfl rfl ?_; refine M0 (q_sub8 rfl rfl rfl rfl (by omega)) rfl rfl ?_
        refine M0 (q_sbat rfl rfl rfl rfl (by omega)) rfl rfl ?_; refine M0 (q_ld1 rfl rfl rfl rfl rfl) rfl rfl ?_; refine L_nil ?_; refine T_n ?_
        refine A_cond rfl (fun h8 => ?_) (fun h8 => ?_)
        · have h8 : sc = true := h8
          subst h8
          refine A_seq ?_; refine A_region ?_; refine M0 (q_assignC rfl rfl rfl) rfl rfl ?_; refine L_nil ?_; refine T_n ?_; refine A_ret ?_; refine T_r ?_; refine B_r ?_; refine T_r ?_; refine B_r ?_
          refine T_r ?_; refine T_r ?_; refine B_r ?_; refine B_r ?_; refine T_r ?_; refine T_r ?_; refine B_r ?_; refine T_r ?_; refine F_r ?_
          exact E_tmp rfl rfl (W_end [] (by decide) rfl rfl (B_eq (hbad (hcn.trans (by simp [tileM]))).symm))
        · have h8 : sc = false := h8
          subst h8
          refine A_skip ?_; refine T_n ?_; refine A_region ?_; refine M0 (q_moveC rfl rfl rfl) rfl rfl ?_; refine M0 (q_moveC rfl rfl rfl) rfl rfl ?_
          refine M0 (q_sub8 rfl rfl rfl rfl (by omega)) rfl rfl ?_; refine M0 (q_sbat rfl rfl rfl rfl (by omega)) rfl rfl ?_; refine M_st1 rfl rfl rfl rfl rfl rfl rfl rfl ?_; refine L_nil ?_
          refine B_n ?_; refine T_n ?_; refine A_region ?_; refine M0 (q_moveC rfl rfl rfl) rfl rfl ?_; refine M0 (q_moveC rfl rfl rfl) rfl rfl ?_
          refine M0 (Qt.grdF rfl rfl rfl .stop (fun hgrd => q_moveC rfl rfl rfl)) rfl rfl ?_
          refine M0 (Qt.grdF rfl rfl rfl (.hit .stop) (fun hgrd => q_neqK (b := true) rfl rfl rfl rfl (by decide))) rfl rfl ?_; refine M0 (q_or rfl rfl rfl rfl) rfl rfl ?_
          refine M0 (q_assignC rfl rfl rfl) rfl rfl ?_; refine L_nil ?_; refine B_n ?_; refine T_n ?_; refine A_region ?_; refine M0 (q_moveC rfl rfl rfl) rfl rfl ?_
          refine M0 (q_add rfl rfl rfl rfl (by omega)) rfl rfl ?_; refine M0 (q_assignC rfl rfl rfl) rfl rfl ?_; refine L_nil ?_; refine T_n ?_
          exact ⟨w - (c + 1), by omega, (fun (c : Nat) (u : Seen × Bool) => (⟨_, [(1, .o (.c (.ptr 0 0))), (3, I w), (4, B u.2), (5, .o (.c (.sb 1 4 1))), (6, I k), (7, I c)], [.box [.rd [] (sl rows)], .box [vb u.1.1, vb u.1.2.1, vb u.1.2.2.1, vb u.1.2.2.2]]⟩ : St)) (c + 1) (((sa, sb, true, sd), true)), W_go [0, 1] (by decide) rfl (rfl) (.cons rfl (.cons rfl (.cons (B_eq (by simp)) (.cons rfl (.cons rfl (.cons rfl (.nil))))))), c + 1, ((sa, sb, true, sd), true), by omega, hcn.trans (by simp [tileM]), rfl⟩
      · refine A_seq ?_; refine A_region ?_; refine M0 (q_moveC rfl rfl rfl) rfl rfl ?_; refine M0 (q_moveC rfl rfl rfl) rfl rfl ?_; refine M_yes rfl rfl rfl ?_
        refine M0 (q_moveC rfl rfl rfl) rfl rfl ?_; refine M_yes rfl rfl rfl ?_; refine M0 (q_neqK (b := true) rfl rfl rfl rfl (by decide)) rfl rfl ?_; refine M_yes rfl rfl rfl ?_
        refine M0 (q_moveC rfl rfl rfl) rfl rfl ?_; refine M_yes rfl rfl rfl ?_; refine M0 (q_moveC rfl rfl rfl) rfl rfl ?_; refine M_yes rfl rfl rfl ?_
        refine M0 (q_neqK (b := true) rfl rfl rfl rfl (by decide)) rfl rfl ?_; refine M_yes rfl rfl rfl ?_; refine M0 (q_pickT rfl rfl rfl rfl) rfl rfl ?_; refine M_yes rfl rfl rfl ?_
        refine M0 (q_moveC rfl rfl rfl) rfl rfl ?_; refine M_yes rfl rfl rfl ?_; refine M0 (q_moveC rfl rfl rfl) rfl rfl ?_; refine M_yes rfl rfl rfl ?_
        refine M0 (q_lssK rfl rfl rfl rfl (by assumption)) rfl rfl ?_; refine M_yes rfl rfl rfl ?_; refine M0 (q_moveC rfl rfl rfl) rfl rfl ?_; refine M_yes rfl rfl rfl ?_
        refine M0 (q_moveC rfl rfl rfl) rfl rfl ?_; refine M_yes rfl rfl rfl ?_; refine M0 (q_gtrK rfl rfl rfl rfl (by assumption)) rfl rfl ?_; refine M_yes rfl rfl rfl ?_
        refine M0 (q_pickF rfl rfl rfl rfl) rfl rfl ?_; refine M_yes rfl rfl rfl ?_; refine M0 (q_pickT rfl rfl rfl rfl) rfl rfl ?_; refine M0 (q_pickF rfl rfl rfl rfl) rfl rfl ?_
        refine M0 (q_assignC rfl rfl rfl) rfl rfl ?_; refine L_nil ?_; refine T_n ?_; refine A_ifF rfl ?_; refine A_seq ?_; refine A_region ?_; refine M0 (q_moveC rfl rfl rfl) rfl rfl ?_
        refine M0 (q_geqK (b := true) rfl rfl rfl rfl (by decide)) rfl rfl ?_; refine M0 (q_moveC rfl rfl rfl) rfl rfl ?_; refine M_yes rfl rfl rfl ?_; refine M0 (q_moveC rfl rfl rfl) rfl rfl ?_
        refine M_yes rfl rfl rfl ?_; refine M0 (q_leqK (b := true) rfl rfl rfl rfl (by decide)) rfl rfl ?_; refine M0 (q_pickT rfl rfl rfl rfl) rfl rfl ?_
        refine M0 (q_assignC rfl rfl rfl) rfl rfl ?_; refine L_nil ?_; refine T_n ?_; refine A_ifT rfl ?_; refine A_seq ?_; refine A_seq ?_; refine A_region ?_
        refine M0 (q_moveC rfl rfl rfl) rfl rfl ?_; refine M0 (q_moveC rfl rfl rfl) rfl rfl ?_; refine M0 (q_sub8 rfl rfl rfl rfl (by omega)) rfl rfl ?_
        refine M0 (q_sbat rfl rfl rfl rfl (by omega)) rfl rfl ?_; refine M0 (q_ld1 rfl rfl rfl rfl rfl) rfl rfl ?_; refine L_nil ?_; refine T_n ?_
        refine A_cond rfl (fun h8 => ?_) (fun h8 => ?_)
        · have h8 : sd = true := h8
          subst h8
          refine A_seq ?_; refine A_region ?_; refine M0 (q_assignC rfl rfl rfl) rfl rfl ?_; refine L_nil ?_; refine T_n ?_; refine A_ret ?_; refine T_r ?_; refine B_r ?_; refine T_r ?_; refine B_r ?_
          refine T_r ?_; refine T_r ?_; refine B_r ?_; refine B_r ?_; refine T_r ?_; refine T_r ?_; refine B_r ?_; refine T_r ?_; refine F_r ?_
          exact E_tmp rfl rfl (W_end [] (by decide) rfl rfl (B_eq (hbad (hcn.trans (by simp [tileM]))).symm))
        · have h8 : sd = false := h8
          subst h8
          refine A_skip ?_; refine T_n ?_; refine A_region ?_; refine M0 (q_moveC rfl rfl rfl) rfl rfl ?_; refine M0 (q_moveC rfl rfl rfl) rfl rfl ?_
          refine M0 (q_sub8 rfl rfl rfl rfl (by omega)) rfl rfl ?_; refine M0 (q_sbat rfl rfl rfl rfl (by omega)) rfl rfl ?_; refine M_st1 rfl rfl rfl rfl rfl rfl rfl rfl ?_; refine L_nil ?_
          refine B_n ?_; refine T_n ?_; refine A_region ?_; refine M0 (q_moveC rfl rfl rfl) rfl rfl ?_; refine M0 (q_moveC rfl rfl rfl) rfl rfl ?_
          refine M0 (Qt.grdF rfl rfl rfl .stop (fun hgrd => q_moveC rfl rfl rfl)) rfl rfl ?_
          refine M0 (Qt.grdF rfl rfl rfl (.hit .stop) (fun hgrd => q_neqK (b := true) rfl rfl rfl rfl (by decide))) rfl rfl ?_; refine M0 (q_or rfl rfl rfl rfl) rfl rfl ?_
          refine M0 (q_assignC rfl rfl rfl) rfl rfl ?_; refine L_nil ?_; refine B_n ?_; refine T_n ?_; refine A_region ?_; refine M0 (q_moveC rfl rfl rfl) rfl rfl ?_
          refine M0 (q_add rfl rfl rfl rfl (by omega)) rfl rfl ?_; refine M0 (q_assignC rfl rfl rfl) rfl rfl ?_; refine L_nil ?_; refine T_n ?_
          exact ⟨w - (c + 1), by omega, (fun (c : Nat) (u : Seen × Bool) => (⟨_, [(1, .o (.c (.ptr 0 0))), (3, I w), (4, B u.2), (5, .o (.c (.sb 1 4 1))), (6, I k), (7, I c)], [.box [.rd [] (sl rows)], .box [vb u.1.1, vb u.1.2.1, vb u.1.2.2.1, vb u.1.2.2.2]]⟩ : St)) (c + 1) (((sa, sb, sc, true), true)), W_go [0, 1] (by decide) rfl (rfl) (.cons rfl (.cons rfl (.cons (B_eq (by simp)) (.cons rfl (.cons rfl (.cons rfl (.nil))))))), c + 1, ((sa, sb, sc, true), true), by omega, hcn.trans (by simp [tileM]), rfl⟩
      · refine A_seq ?_; refine A_region ?_; refine M0 (q_moveC rfl rfl rfl) rfl rfl ?_; refine M0 (q_moveC rfl rfl rfl) rfl rfl ?_; refine M_yes rfl rfl rfl ?_
        refine M0 (q_moveC rfl rfl rfl) rfl rfl ?_; refine M_yes rfl rfl rfl ?_; refine M0 (q_neqK rfl rfl rfl rfl (by assumption)) rfl rfl ?_; refine M_yes rfl rfl rfl ?_
        refine M0 (q_moveC rfl rfl rfl) rfl rfl ?_; refine M_no rfl rfl rfl rfl rfl rfl ?_; refine M_no rfl rfl rfl rfl rfl rfl ?_; refine M_yes rfl rfl rfl ?_
        refine M0 (q_pickF rfl rfl rfl rfl) rfl rfl ?_; refine M_yes rfl rfl rfl ?_; refine M0 (q_moveC rfl rfl rfl) rfl rfl ?_; refine M_no rfl rfl rfl rfl rfl rfl ?_
        refine M_no rfl rfl rfl rfl rfl rfl ?_; refine M_no rfl rfl rfl rfl rfl rfl ?_; refine M0 (Qt.no2 rfl rfl rfl) rfl rfl ?_; refine M0 (Qt.no2 rfl rfl rfl) rfl rfl ?_
        refine M_no rfl rfl rfl rfl rfl rfl ?_; refine M_yes rfl rfl rfl ?_; refine M0 (q_pickF rfl rfl rfl rfl) rfl rfl ?_; refine M0 (q_pickF rfl rfl rfl rfl) rfl rfl ?_
        refine M0 (q_assignC rfl rfl rfl) rfl rfl ?_; refine L_nil ?_; refine T_n ?_; refine A_ifF rfl ?_; refine A_seq ?_; refine A_region ?_; refine M0 (q_moveC rfl rfl rfl) rfl rfl ?_
        refine M0 (q_geqK (b := true) rfl rfl rfl rfl (by decide)) rfl rfl ?_; refine M0 (q_moveC rfl rfl rfl) rfl rfl ?_; refine M_yes rfl rfl rfl ?_; refine M0 (q_moveC rfl rfl rfl) rfl rfl ?_
        refine M_yes rfl rfl rfl ?_; refine M0 (q_leqK rfl rfl rfl rfl (by assumption)) rfl rfl ?_; refine M0 (q_pickT rfl rfl rfl rfl) rfl rfl ?_; refine M0 (q_assignC rfl rfl rfl) rfl rfl ?_
        refine L_nil ?_; refine T_n ?_; refine A_ifF rfl ?_; refine A_skip ?_; refine B_n ?_; refine T_n ?_; refine A_region ?_; refine M0 (q_moveC rfl rfl rfl) rfl rfl ?_
        refine M0 (q_moveC rfl rfl rfl) rfl rfl ?_; refine M0 (Qt.grdF rfl rfl rfl .stop (fun hgrd => q_moveC rfl rfl rfl)) rfl rfl ?_
        refine M0 (Qt.grdF rfl rfl rfl (.hit .stop) (fun hgrd => q_neqK (b := true) rfl rfl rfl rfl (by decide))) rfl rfl ?_; refine M0 (q_or rfl rfl rfl rfl) rfl rfl ?_
        refine M0 (q_assignC rfl rfl rfl) rfl rfl ?_; refine L_nil ?_; refine B_n ?_; refine T_n ?_; refine A_region ?_; refine M0 (q_moveC rfl rfl rfl) rfl rfl ?_
        refine M0 (q_add rfl rfl rfl rfl (by omega)) rfl rfl ?_; refine M0 (q_assignC rfl rfl rfl) rfl rfl ?_; refine L_nil ?_; refine T_n ?_
        exact ⟨w - (c + 1), by omega, (fun (c : Nat) (u : Seen × Bool) => (⟨_, [(1, .o (.c (.ptr 0 0))), (3, I w), (4, B u.2), (5, .o (.c (.sb 1 4 1))), (6, I k), (7, I c)], [.box [.rd [] (sl rows)], .box [vb u.1.1, vb u.1.2.1, vb u.1.2.2.1, vb u.1.2.2.2]]⟩ : St)) (c + 1) (((sa, sb, sc, sd), true)), W_go [0, 1] (by decide) rfl (rfl) (.cons rfl (.cons rfl (.cons (B_eq (by simp)) (.cons rfl (.cons rfl (.cons rfl (.nil))))))), c + 1, ((sa, sb, sc, sd), true), by omega, hcn.trans (by simp [tileM]), rfl⟩
      · refine A_seq ?_; refine A_region ?_; refine M0 (q_moveC rfl rfl rfl) rfl rfl ?_; refine M0 (q_moveC rfl rfl rfl) rfl rfl ?_; refine M_yes rfl rfl rfl ?_
        refine M0 (q_moveC rfl rfl rfl) rfl rfl ?_; refine M_yes rfl rfl rfl ?_; refine M0 (q_neqK (b := true) rfl rfl rfl rfl (by decide)) rfl rfl ?_; refine M_yes rfl rfl rfl ?_
        refine M0 (q_moveC rfl rfl rfl) rfl rfl ?_; refine M_yes rfl rfl rfl ?_; refine M0 (q_moveC rfl rfl rfl) rfl rfl ?_; refine M_yes rfl rfl rfl ?_
        refine M0 (q_neqK rfl rfl rfl rfl (by assumption)) rfl rfl ?_; refine M_yes rfl rfl rfl ?_; refine M0 (q_pickT rfl rfl rfl rfl) rfl rfl ?_; refine M_yes rfl rfl rfl ?_
        refine M0 (q_moveC rfl rfl rfl) rfl rfl ?_; refine M_no rfl rfl rfl rfl rfl rfl ?_; refine M_no rfl rfl rfl rfl rfl rfl ?_; refine M_no rfl rfl rfl rfl rfl rfl ?_
        refine M0 (Qt.no2 rfl rfl rfl) rfl rfl ?_; refine M0 (Qt.no2 rfl rfl rfl) rfl rfl ?_; refine M_no rfl rfl rfl rfl rfl rfl ?_; refine M_yes rfl rfl rfl ?_
        refine M0 (q_pickF rfl rfl rfl rfl) rfl rfl ?_; refine M0 (q_pickF rfl rfl rfl rfl) rfl rfl ?_; refine M0 (q_assignC rfl rfl rfl) rfl rfl ?_; refine L_nil ?_; refine T_n ?_
        refine A_ifF rfl ?_; refine A_seq ?_; refine A_region ?_; refine M0 (q_moveC rfl rfl rfl) rfl rfl ?_; refine M0 (q_geqK rfl rfl rfl rfl (by assumption)) rfl rfl ?_
        refine M0 (q_moveC rfl rfl rfl) rfl rfl ?_; refine M_no rfl rfl rfl rfl rfl rfl ?_; refine M_no rfl rfl rfl rfl rfl rfl ?_; refine M0 (q_pickF rfl rfl rfl rfl) rfl rfl ?_
        refine M0 (q_assignC rfl rfl rfl) rfl rfl ?_; refine L_nil ?_; refine T_n ?_; refine A_ifF rfl ?_; refine A_skip ?_; refine B_n ?_; refine T_n ?_; refine A_region ?_
        refine M0 (q_moveC rfl rfl rfl) rfl rfl ?_; refine M0 (q_moveC rfl rfl rfl) rfl rfl ?_; refine M0 (Qt.grdF rfl rfl rfl .stop (fun hgrd => q_moveC rfl rfl rfl)) rfl rfl ?_
        refine M0 (Qt.grdF rfl rfl rfl (.hit .stop) (fun hgrd => q_neqK (b := true) rfl rfl rfl rfl (by decide))) rfl rfl ?_; refine M0 (q_or rfl rfl rfl rfl) rfl rfl ?_
        refine M0 (q_assignC rfl rfl rfl) rfl rfl ?_; refine L_nil ?_; refine B_n ?_; refine T_n ?_; refine A_region ?_; refine M0 (q_moveC rfl rfl rfl) rfl rfl ?_
        refine M0 (q_add rfl rfl rfl rfl (by omega)) rfl rfl ?_; refine M0 (q_assignC rfl rfl rfl) rfl rfl ?_; refine L_nil ?_; refine T_n ?_
        exact ⟨w - (c + 1), by omega, (fun (c : Nat) (u : Seen × Bool) => (⟨_, [(1, .o (.c (.ptr 0 0))), (3, I w), (4, B u.2), (5, .o (.c (.sb 1 4 1))), (6, I k), (7, I c)], [.box [.rd [] (sl rows)], .box [vb u.1.1, vb u.1.2.1, vb u.1.2.2.1, vb u.1.2.2.2]]⟩ : St)) (c + 1) (((sa, sb, sc, sd), true)), W_go [0, 1] (by decide) rfl (rfl) (.cons rfl (.cons rfl (.cons (B_eq (by simp)) (.cons rfl (.cons rfl (.cons rfl (.nil))))))), c + 1, ((sa, sb, sc, sd), true), by omega, hcn.trans (by simp [tileM]), rfl⟩
      · refine A_seq ?_; refine A_region ?_; refine M0 (q_moveC rfl rfl rfl) rfl rfl ?_; refine M0 (q_moveC rfl rfl rfl) rfl rfl ?_; refine M_yes rfl rfl rfl ?_
        refine M0 (q_moveC rfl rfl rfl) rfl rfl ?_; refine M_yes rfl rfl rfl ?_; refine M0 (q_neq rfl rfl rfl rfl) rfl rfl ?_; refine M_yes rfl rfl rfl ?_
        refine M0 (q_moveC rfl rfl rfl) rfl rfl ?_; refine M0 (Qt.grdT rfl rfl rfl .stop (fun hgrd => q_moveC rfl rfl rfl)) rfl rfl ?_
        refine M0 (Qt.grdT rfl rfl rfl (.hit .stop) (fun hgrd => q_neq rfl rfl rfl rfl)) rfl rfl ?_; refine M_yes rfl rfl rfl ?_; refine M0 (q_and rfl rfl rfl rfl) rfl rfl ?_
        refine M_yes rfl rfl rfl ?_; refine M0 (q_moveC rfl rfl rfl) rfl rfl ?_; refine M0 (Qt.grdT rfl rfl rfl .stop (fun hgrd => q_moveC rfl rfl rfl)) rfl rfl ?_
        refine M0 (Qt.grdT rfl rfl rfl (.hit .stop) (fun hgrd => q_lss rfl rfl rfl rfl)) rfl rfl ?_
        refine M0 (Qt.grdT rfl rfl rfl (.hit (.hit .stop)) (fun hgrd => q_moveC rfl rfl rfl)) rfl rfl ?_
        refine M0 (Qt.grd2F rfl rfl rfl (.hit1 (.hit1 (.hit1 .stop))) (fun hgrd hgrd2 => q_moveC rfl rfl rfl)) rfl rfl ?_
        refine M0 (Qt.grd2F rfl rfl rfl (.hit (.hit1 (.hit1 (.hit1 .stop)))) (fun hgrd hgrd2 => q_gtr rfl rfl rfl rfl)) rfl rfl ?_
        refine M0 (Qt.grdT rfl rfl rfl (.part (.part (.hit (.hit (.hit .stop))))) (fun hgrd => q_or rfl rfl rfl rfl)) rfl rfl ?_; refine M_yes rfl rfl rfl ?_
        refine M0 (q_and rfl rfl rfl rfl) rfl rfl ?_; refine M0 (q_pickF rfl rfl rfl rfl) rfl rfl ?_; refine M0 (q_assignC rfl rfl rfl) rfl rfl ?_; refine L_nil ?_; refine T_n ?_
        refine A_cond rfl (fun h8 => ?_) (fun h8 => ?_)
        · refine A_seq ?_; refine A_region ?_; refine M0 (q_assignC rfl rfl rfl) rfl rfl ?_; refine L_nil ?_; refine T_n ?_; refine A_ret ?_; refine B_r ?_; refine T_r ?_; refine B_r ?_; refine T_r ?_
          refine T_r ?_; refine B_r ?_; refine B_r ?_; refine T_r ?_; refine T_r ?_; refine B_r ?_; refine T_r ?_; refine F_r ?_
          exact E_tmp rfl rfl (W_end [] (by decide) rfl rfl (B_eq (hbad (hcn.trans (by simp [tileM, ht7]))).symm))
        · simp only [Bool.and_eq_false_iff, Bool.or_eq_false_iff, Bool.false_or, decide_eq_false_iff_not, Classical.not_not] at h8
          omega
    · have h5 : c = w := by have := of_decide_eq_false h5; omega
      rw [h5] at hp_D
      rw [hp_D] at hrn
      refine A_exit ?_; refine T_x ?_; refine T_x ?_; refine B_xs ?_; refine B_n ?_; refine T_n ?_; refine A_region ?_; refine M0 (q_moveC rfl rfl rfl) rfl rfl ?_
      refine M0 (q_add rfl rfl rfl rfl (by omega)) rfl rfl ?_; refine M0 (q_assignC rfl rfl rfl) rfl rfl ?_; refine L_nil ?_; refine T_n ?_
      exact ⟨rows.length - (k + 1), by omega, (fun (k : Nat) (s : Seen × Bool) => (⟨_, [(1, .o (.c (.ptr 0 0))), (3, I w), (4, B s.2), (5, .o (.c (.sb 1 4 1))), (6, I k)], [.box [.rd [] (sl rows)], .box [vb s.1.1, vb s.1.2.1, vb s.1.2.2.1, vb s.1.2.2.2]]⟩ : St)) (k + 1) (u), W_go [0, 1] (by decide) rfl (rfl) (.cons rfl (.cons rfl (.cons rfl (.cons rfl (.cons rfl (.nil)))))), k + 1, u, by omega, ⟨hrn, fun _ => h1⟩, rfl⟩
  · have h3 : ¬ ((k : Int) < (els rows).length) := of_decide_eq_false h
    have hk : k = rows.length := by omega
    subst hk
    refine A_exit ?_; refine T_x ?_; refine T_x ?_; refine B_xs ?_; refine T_n ?_; refine A_seq ?_; refine A_region ?_; refine M0 (q_moveC rfl rfl rfl) rfl rfl ?_
    refine M0 (q_assignC rfl rfl rfl) rfl rfl ?_; refine L_nil ?_; refine T_n ?_; refine A_ret ?_; refine F_r ?_
    exact E_tmp rfl rfl (W_end [] (by decide) rfl rfl (B_eq (by
      unfold levelOk
      rw [hw, hp_A.1]
      have h1 := hp_A.2 (by omega)
      have : 3 ≤ rows.length ∧ rows.length ≤ 12 ∧ 4 ≤ w ∧ w ≤ 20 := by omega
      simp [this])))
end Go.Proofs.Ytbpebmolbdplmaa
end

section
set_option linter.unusedSimpArgs false
set_option linter.unusedVariables false
set_option maxRecDepth 8000
namespace Go.Proofs.Ytbpebmolbdplmaa
open Go.RowKit

theorem rowsM_size {rows : List ByteArray} {w : Nat} : ∀ n s, rowsM rows w n = some s → ∀ r, r < n → ∃ row, rows[r]? = some row ∧ row.size = w
  | 0, s, _ => fun r hr => by omega
  | n + 1, s, h => fun r hr => by
    rw [rowsM] at h
    split at h
    · cases h
    · rename_i s1 h1
      split at h
      · cases h
      · rename_i row hrow
        split at h
        · rename_i hw
          by_cases e : r = n
          · subst e; exact ⟨row, hrow, hw⟩
          · exact rowsM_size n s1 h1 r (by omega)
        · cases h
theorem level_facts {l : TLevel} (h : levelOk l = true) : 3 ≤ l.Rows.length ∧ l.Rows.length ≤ 12 ∧ ∃ w, 4 ≤ w ∧ w ≤ 20 ∧ ∀ (r : Nat) (hr : r < l.Rows.length), (l.Rows[r]).size = w := by
  unfold levelOk at h
  simp only [Bool.and_eq_true, decide_eq_true_eq] at h
  obtain ⟨⟨⟨⟨h1, h2⟩, h3⟩, h4⟩, h5⟩ := h
  refine ⟨h1, h2, widthM l.Rows, h3, h4, fun r hr => ?_⟩
  split at h5
  · rename_i s hs
    obtain ⟨row, h6, h7⟩ := rowsM_size _ s hs r hr
    rw [List.getElem?_eq_getElem hr] at h6
    simp only [Option.some.injEq] at h6
    rw [h6]; exact h7
  · cases h5
def sizeOf (k : Int) : Int := if k = 0 then 12 else if k = 1 then 4 else if k = 2 then 8 else 0
set_option maxHeartbeats 8000000 in
theorem I_SizeOf (k : Int) : Con Try.prog 137 [] [ai k] [] (I (sizeOf k)) := by
  by_cases h0 : k = 0
  · have hb : decide (k = 0) = true := decide_eq_true h0
    rw [show sizeOf k = 12 by rw [sizeOf, if_pos h0]]
    refine Con.of Try.func137 rfl Try.ntmps137 rfl (fun E => ?_)
    refine A_seq ?_; refine A_region ?_; refine M0 (q_assignC rfl rfl rfl) rfl rfl ?_; refine L_nil ?_; refine T_n ?_; refine A_seq ?_; refine A_seq ?_; refine A_region ?_
    refine M0 (q_moveC rfl rfl rfl) rfl rfl ?_; refine L_nil ?_; refine T_n ?_; refine A_block ?_; refine A_seq ?_; refine A_region ?_
    refine M0 (q_eqlK rfl rfl rfl rfl (by assumption)) rfl rfl ?_; refine M0 (q_assignC rfl rfl rfl) rfl rfl ?_; refine L_nil ?_; refine T_n ?_; refine A_ifT rfl ?_; refine A_seq ?_
    refine A_region ?_; refine M0 (q_assignC rfl rfl rfl) rfl rfl ?_; refine L_nil ?_; refine T_n ?_; refine A_ret ?_; refine B_r ?_; refine T_r ?_; refine F_r ?_
    exact E_tmp rfl rfl (W_end [] (by decide) rfl rfl rfl)
  have hb0 : decide (k = 0) = false := decide_eq_false h0
  by_cases h1 : k = 1
  · have hb : decide (k = 1) = true := decide_eq_true h1
    rw [show sizeOf k = 4 by rw [sizeOf, if_neg h0, if_pos h1]]
    refine Con.of Try.func137 rfl Try.ntmps137 rfl (fun E => ?_)
    refine A_seq ?_; refine A_region ?_; refine M0 (q_assignC rfl rfl rfl) rfl rfl ?_; refine L_nil ?_; refine T_n ?_; refine A_seq ?_; refine A_seq ?_; refine A_region ?_
    refine M0 (q_moveC rfl rfl rfl) rfl rfl ?_; refine L_nil ?_; refine T_n ?_; refine A_block ?_; refine A_seq ?_; refine A_region ?_
    refine M0 (q_eqlK rfl rfl rfl rfl (by assumption)) rfl rfl ?_; refine M0 (q_assignC rfl rfl rfl) rfl rfl ?_; refine L_nil ?_; refine T_n ?_; refine A_ifF rfl ?_; refine A_seq ?_
    refine A_region ?_; refine M0 (q_eqlK rfl rfl rfl rfl (by assumption)) rfl rfl ?_; refine M0 (q_assignC rfl rfl rfl) rfl rfl ?_; refine L_nil ?_; refine T_n ?_; refine A_ifT rfl ?_
    refine A_seq ?_; refine A_region ?_; refine M0 (q_assignC rfl rfl rfl) rfl rfl ?_; refine L_nil ?_; refine T_n ?_; refine A_ret ?_; refine B_r ?_; refine T_r ?_; refine F_r ?_
    exact E_tmp rfl rfl (W_end [] (by decide) rfl rfl rfl)
  have hb1 : decide (k = 1) = false := decide_eq_false h1
  by_cases h2 : k = 2
  · have hb : decide (k = 2) = true := decide_eq_true h2
    rw [show sizeOf k = 8 by rw [sizeOf, if_neg h0, if_neg h1, if_pos h2]]
    refine Con.of Try.func137 rfl Try.ntmps137 rfl (fun E => ?_)
    refine A_seq ?_; refine A_region ?_; refine M0 (q_assignC rfl rfl rfl) rfl rfl ?_; refine L_nil ?_; refine T_n ?_; refine A_seq ?_; refine A_seq ?_; refine A_region ?_
    refine M0 (q_moveC rfl rfl rfl) rfl rfl ?_; refine L_nil ?_; refine T_n ?_; refine A_block ?_; refine A_seq ?_; refine A_region ?_
    refine M0 (q_eqlK rfl rfl rfl rfl (by assumption)) rfl rfl ?_; refine M0 (q_assignC rfl rfl rfl) rfl rfl ?_; refine L_nil ?_; refine T_n ?_; refine A_ifF rfl ?_; refine A_seq ?_
    refine A_region ?_; refine M0 (q_eqlK rfl rfl rfl rfl (by assumption)) rfl rfl ?_; refine M0 (q_assignC rfl rfl rfl) rfl rfl ?_; refine L_nil ?_; refine T_n ?_; refine A_ifF rfl ?_
    refine A_seq ?_; refine A_region ?_; refine M0 (q_eqlK rfl rfl rfl rfl (by assumption)) rfl rfl ?_; refine M0 (q_assignC rfl rfl rfl) rfl rfl ?_; refine L_nil ?_; refine T_n ?_
    refine A_ifT rfl ?_; refine A_seq ?_; refine A_region ?_; refine M0 (q_assignC rfl rfl rfl) rfl rfl ?_; refine L_nil ?_; refine T_n ?_; refine A_ret ?_; refine B_r ?_; refine T_r ?_; refine F_r ?_
    exact E_tmp rfl rfl (W_end [] (by decide) rfl rfl rfl)
  have hb2 : decide (k = 2) = false := decide_eq_false h2
  rw [show sizeOf k = 0 by rw [sizeOf, if_neg h0, if_neg h1, if_neg h2]]
  refine Con.of Try.func137 rfl Try.ntmps137 rfl (fun E => ?_)
  refine A_seq ?_; refine A_region ?_; refine M0 (q_assignC rfl rfl rfl) rfl rfl ?_; refine L_nil ?_; refine T_n ?_; refine A_seq ?_; refine A_seq ?_; refine A_region ?_
  refine M0 (q_moveC rfl rfl rfl) rfl rfl ?_; refine L_nil ?_; refine T_n ?_; refine A_block ?_; refine A_seq ?_; refine A_region ?_
  refine M0 (q_eqlK rfl rfl rfl rfl (by assumption)) rfl rfl ?_; refine M0 (q_assignC rfl rfl rfl) rfl rfl ?_; refine L_nil ?_; refine T_n ?_; refine A_ifF rfl ?_; refine A_seq ?_
  refine A_region ?_; refine M0 (q_eqlK rfl rfl rfl rfl (by assumption)) rfl rfl ?_; refine M0 (q_assignC rfl rfl rfl) rfl rfl ?_; refine L_nil ?_; refine T_n ?_; refine A_ifF rfl ?_
  refine A_seq ?_; refine A_region ?_; refine M0 (q_eqlK rfl rfl rfl rfl (by assumption)) rfl rfl ?_; refine M0 (q_assignC rfl rfl rfl) rfl rfl ?_; refine L_nil ?_; refine T_n ?_
  refine A_ifF rfl ?_; refine A_skip ?_; refine B_n ?_; refine T_n ?_; refine A_seq ?_; refine A_region ?_; refine M0 (q_assignC rfl rfl rfl) rfl rfl ?_; refine L_nil ?_; refine T_n ?_
  refine A_ret ?_; refine F_r ?_
  exact E_tmp rfl rfl (W_end [] (by decide) rfl rfl rfl)
set_option maxHeartbeats 8000000 in
theorem S_SizeOf (k : Int) : Con Try.prog 135 [] [ai k] [] (I (sizeOf k)) := by
  by_cases h0 : k = 0
  · have hb : decide (k = 0) = true := decide_eq_true h0
    rw [show sizeOf k = 12 by rw [sizeOf, if_pos h0]]
    refine Con.of Try.func135 rfl Try.ntmps135 rfl (fun E => ?_)
    refine A_seq ?_; refine A_region ?_; refine M0 (q_assignC rfl rfl rfl) rfl rfl ?_; refine L_nil ?_; refine T_n ?_; refine A_seq ?_; refine A_seq ?_; refine A_region ?_
    refine M0 (q_moveC rfl rfl rfl) rfl rfl ?_; refine L_nil ?_; refine T_n ?_; refine A_block ?_; refine A_seq ?_; refine A_region ?_
    refine M0 (q_eqlK rfl rfl rfl rfl (by assumption)) rfl rfl ?_; refine M0 (q_assignC rfl rfl rfl) rfl rfl ?_; refine L_nil ?_; refine T_n ?_; refine A_ifT rfl ?_; refine A_seq ?_
    refine A_region ?_; refine M0 (q_assignC rfl rfl rfl) rfl rfl ?_; refine L_nil ?_; refine T_n ?_; refine A_ret ?_; refine B_r ?_; refine T_r ?_; refine F_r ?_
    exact E_tmp rfl rfl (W_end [] (by decide) rfl rfl rfl)
  have hb0 : decide (k = 0) = false := decide_eq_false h0
  by_cases h1 : k = 1
  · have hb : decide (k = 1) = true := decide_eq_true h1
    rw [show sizeOf k = 4 by rw [sizeOf, if_neg h0, if_pos h1]]
    refine Con.of Try.func135 rfl Try.ntmps135 rfl (fun E => ?_)
    refine A_seq ?_; refine A_region ?_; refine M0 (q_assignC rfl rfl rfl) rfl rfl ?_; refine L_nil ?_; refine T_n ?_; refine A_seq ?_; refine A_seq ?_; refine A_region ?_
    refine M0 (q_moveC rfl rfl rfl) rfl rfl ?_; refine L_nil ?_; refine T_n ?_; refine A_block ?_; refine A_seq ?_; refine A_region ?_
    refine M0 (q_eqlK rfl rfl rfl rfl (by assumption)) rfl rfl ?_; refine M0 (q_assignC rfl rfl rfl) rfl rfl ?_; refine L_nil ?_; refine T_n ?_; refine A_ifF rfl ?_; refine A_seq ?_
    refine A_region ?_; refine M0 (q_eqlK rfl rfl rfl rfl (by assumption)) rfl rfl ?_; refine M0 (q_assignC rfl rfl rfl) rfl rfl ?_; refine L_nil ?_; refine T_n ?_; refine A_ifT rfl ?_
    refine A_seq ?_; refine A_region ?_; refine M0 (q_assignC rfl rfl rfl) rfl rfl ?_; refine L_nil ?_; refine T_n ?_; refine A_ret ?_; refine B_r ?_; refine T_r ?_; refine F_r ?_
    exact E_tmp rfl rfl (W_end [] (by decide) rfl rfl rfl)
  have hb1 : decide (k = 1) = false := decide_eq_false h1
  by_cases h2 : k = 2
  · have hb : decide (k = 2) = true := decide_eq_true h2
    rw [show sizeOf k = 8 by rw [sizeOf, if_neg h0, if_neg h1, if_pos h2]]
    refine Con.of Try.func135 rfl Try.ntmps135 rfl (fun E => ?_)
    refine A_seq ?_; refine A_region ?_; refine M0 (q_assignC rfl rfl rfl) rfl rfl ?_; refine L_nil ?_; refine T_n ?_; refine A_seq ?_; refine A_seq ?_; refine A_region ?_
    refine M0 (q_moveC rfl rfl rfl) rfl rfl ?_; refine L_nil ?_; refine T_n ?_; refine A_block ?_; refine A_seq ?_; refine A_region ?_
    refine M0 (q_eqlK rfl rfl rfl rfl (by assumption)) rfl rfl ?_; refine M0 (q_assignC rfl rfl rfl) rfl rfl ?_; refine L_nil ?_; refine T_n ?_; refine A_ifF rfl ?_; refine A_seq ?_
    refine A_region ?_; refine M0 (q_eqlK rfl rfl rfl rfl (by assumption)) rfl rfl ?_; refine M0 (q_assignC rfl rfl rfl) rfl rfl ?_; refine L_nil ?_; refine T_n ?_; refine A_ifF rfl ?_
    refine A_seq ?_; refine A_region ?_; refine M0 (q_eqlK rfl rfl rfl rfl (by assumption)) rfl rfl ?_; refine M0 (q_assignC rfl rfl rfl) rfl rfl ?_; refine L_nil ?_; refine T_n ?_
    refine A_ifT rfl ?_; refine A_seq ?_; refine A_region ?_; refine M0 (q_assignC rfl rfl rfl) rfl rfl ?_; refine L_nil ?_; refine T_n ?_; refine A_ret ?_; refine B_r ?_; refine T_r ?_; refine F_r ?_
    exact E_tmp rfl rfl (W_end [] (by decide) rfl rfl rfl)
  have hb2 : decide (k = 2) = false := decide_eq_false h2
  rw [show sizeOf k = 0 by rw [sizeOf, if_neg h0, if_neg h1, if_neg h2]]
  refine Con.of Try.func135 rfl Try.ntmps135 rfl (fun E => ?_)
  refine A_seq ?_; refine A_region ?_; refine M0 (q_assignC rfl rfl rfl) rfl rfl ?_; refine L_nil ?_; refine T_n ?_; refine A_seq ?_; refine A_seq ?_; refine A_region ?_
  refine M0 (q_moveC rfl rfl rfl) rfl rfl ?_; refine L_nil ?_; refine T_n ?_; refine A_block ?_; refine A_seq ?_; refine A_region ?_
  refine M0 (q_eqlK rfl rfl rfl rfl (by assumption)) rfl rfl ?_; refine M0 (q_assignC rfl rfl rfl) rfl rfl ?_; refine L_nil ?_; refine T_n ?_; refine A_ifF rfl ?_; refine A_seq ?_
  refine A_region ?_; refine M0 (q_eqlK rfl rfl rfl rfl (by assumption)) rfl rfl ?_; refine M0 (q_assignC rfl rfl rfl) rfl rfl ?_; refine L_nil ?_; refine T_n ?_; refine A_ifF rfl ?_
  refine A_seq ?_; refine A_region ?_; refine M0 (q_eqlK rfl rfl rfl rfl (by assumption)) rfl rfl ?_; refine M0 (q_assignC rfl rfl rfl) rfl rfl ?_; refine L_nil ?_; refine T_n ?_
  refine A_ifF rfl ?_; refine A_skip ?_; refine B_n ?_; refine T_n ?_; refine A_seq ?_; refine A_region ?_; refine M0 (q_assignC rfl rfl rfl) rfl rfl ?_; refine L_nil ?_; refine T_n ?_
  refine A_ret ?_; refine F_r ?_
  exact E_tmp rfl rfl (W_end [] (by decide) rfl rfl rfl)
/-- Tile r, c is a wall or outside. -/
def wallAt (l : TLevel) (r c : Int) : Prop := ∀ (q : Nat) (hq : q < l.Rows.length), r = q → 0 ≤ c → c < (l.Rows[q]).size → byteAt (l.Rows[q]) c.toNat = 35
def hits (l : TLevel) (x y s : Int) : Prop := ∃ r c : Int, y / 16 ≤ r ∧ r ≤ (y + s - 1) / 16 ∧ x / 16 ≤ c ∧ c ≤ (x + s - 1) / 16 ∧ wallAt l r c
noncomputable def solidM (l : TLevel) (x y s : Int) : Bool := @decide (hits l x y s) (Classical.propDecidable _)
theorem solidM_T {l : TLevel} {x y s : Int} (h : hits l x y s) : solidM l x y s = true := @decide_eq_true _ (Classical.propDecidable _) h
theorem solidM_F {l : TLevel} {x y s : Int} (h : ¬ hits l x y s) : solidM l x y s = false := @decide_eq_false _ (Classical.propDecidable _) h
theorem wall_tile {l : TLevel} {r c : Nat} (hr : r < l.Rows.length) (h : byteAt (l.Rows[r]) c = 35) : wallAt l r c := fun q hq e h0 h1 => by
  have : q = r := by omega
  subst this
  exact h
theorem no_wall {l : TLevel} {r c : Nat} (hr : r < l.Rows.length) (hc : c < (l.Rows[r]).size) (h : byteAt (l.Rows[r]) c ≠ 35) : ¬ wallAt l r c := fun hw => h (hw r hr rfl (by omega) (by omega))
theorem out_hits {l : TLevel} {x y s : Int} {w : Nat} (hw : ∀ (r : Nat) (hr : r < l.Rows.length), (l.Rows[r]).size = w) (h1 : 1 ≤ s) (h : x < 0 ∨ y < 0 ∨ (w : Int) * 16 - s < x ∨ (l.Rows.length : Int) * 16 - s < y) : hits l x y s := by
  by_cases hx : x < 0
  · exact ⟨y / 16, x / 16, by omega, by omega, by omega, by omega, fun q hq e h0 h1 => by omega⟩
  by_cases hy : y < 0
  · exact ⟨y / 16, x / 16, by omega, by omega, by omega, by omega, fun q hq e h0 h1 => by omega⟩
  by_cases hx2 : (w : Int) * 16 - s < x
  · exact ⟨y / 16, (x + s - 1) / 16, by omega, by omega, by omega, by omega, fun q hq e h0 h1 => by have := hw q hq; omega⟩
  · exact ⟨(y + s - 1) / 16, x / 16, by omega, by omega, by omega, by omega, fun q hq e h0 h1 => by omega⟩
/-- Nothing solid in rows a to b - 1. -/
def freeR (l : TLevel) (x s : Int) (a b : Int) : Prop := ∀ r c : Int, a ≤ r → r < b → x / 16 ≤ c → c ≤ (x + s - 1) / 16 → ¬ wallAt l r c
def freeC (l : TLevel) (r : Int) (a b : Int) : Prop := ∀ c : Int, a ≤ c → c < b → ¬ wallAt l r c
theorem free_all {l : TLevel} {x y s b : Int} (h : freeR l x s (y / 16) b) (hb : (y + s - 1) / 16 < b) : ¬ hits l x y s := fun ⟨r, c, h1, h2, h3, h4, h5⟩ => h r c h1 (by omega) h3 h4 h5
theorem free_row {l : TLevel} {x s a b e : Int} (h : freeR l x s a b) (hc : freeC l b (x / 16) e) (he : (x + s - 1) / 16 < e) : freeR l x s a (b + 1) := fun r c h1 h2 h3 h4 => by
  by_cases hr : r < b
  · exact h r c h1 hr h3 h4
  · have : r = b := by omega
    subst this
    exact hc c h3 (by omega)
theorem free_col {l : TLevel} {r a b : Int} (h : freeC l r a b) (hn : ¬ wallAt l r b) : freeC l r a (b + 1) := fun c h1 h2 => by
  by_cases hc : c < b
  · exact h c h1 hc
  · have : c = b := by omega
    subst this
    exact hn
set_option maxHeartbeats 8000000 in
theorem I_solid (l : TLevel) (x y s : Int) (hl : levelOk l = true) (hx : I64 x) (hy : I64 y) (h1 : 1 ≤ s) (h16 : s ≤ 16) : Con Try.prog 141 [] [ag l, ai x, ai y, ai s] [] (B (solidM l x y s)) := by
  obtain ⟨hx1, hx2⟩ := hx
  obtain ⟨hy1, hy2⟩ := hy
  obtain ⟨f3, f12, w, w4, w20, hw⟩ := level_facts hl
  have hlx := els_len l.Rows
  have h0 : 0 < l.Rows.length := by omega
  have hat0 : (els l.Rows)[(0 : Int).toNat]? = some (Enc.e l.Rows[0]) := els_at h0
  have hw0 := hw 0 h0
  refine Con.of Try.func141 rfl Try.ntmps141 rfl (fun E => ?_)
  refine A_seq ?_; refine A_region ?_; refine M1 (q_boxN rfl rfl rfl rfl) rfl rfl ?_; refine M0 (q_assignC rfl rfl rfl) rfl rfl ?_; refine L_nil ?_; refine T_n ?_; refine A_seq ?_
  refine A_region ?_; refine M0 (q_fldp rfl rfl rfl rfl (by decide)) rfl rfl ?_; refine M0 (q_ld1 rfl rfl rfl rfl rfl) rfl rfl ?_
  refine M0 (q_at rfl rfl rfl rfl (by omega) (by assumption) rfl) rfl rfl ?_; refine M0 (q_lr1 rfl rfl rfl rfl) rfl rfl ?_; refine M0 (q_lens rfl rfl rfl) rfl rfl ?_
  refine M0 (q_mul rfl rfl rfl rfl (by omega)) rfl rfl ?_; refine M0 (q_assignC rfl rfl rfl) rfl rfl ?_; refine L_nil ?_; refine T_n ?_; refine A_seq ?_; refine A_region ?_
  refine M0 (q_fldp rfl rfl rfl rfl (by decide)) rfl rfl ?_; refine M0 (q_ld1 rfl rfl rfl rfl rfl) rfl rfl ?_; refine M0 (q_len rfl rfl rfl) rfl rfl ?_
  refine M0 (q_mul rfl rfl rfl rfl (by omega)) rfl rfl ?_; refine M0 (q_assignC rfl rfl rfl) rfl rfl ?_; refine L_nil ?_; refine T_n ?_; refine A_seq ?_; refine A_seq ?_; refine A_region ?_
  refine M0 (q_moveC rfl rfl rfl) rfl rfl ?_; refine M0 (q_lss rfl rfl rfl rfl) rfl rfl ?_; refine M0 (q_moveC rfl rfl rfl) rfl rfl ?_
  refine M0 (Qt.grdF rfl rfl rfl .stop (fun hgrd => q_moveC rfl rfl rfl)) rfl rfl ?_; refine M0 (Qt.grdF rfl rfl rfl (.hit .stop) (fun hgrd => q_lss rfl rfl rfl rfl)) rfl rfl ?_
  refine M0 (q_or rfl rfl rfl rfl) rfl rfl ?_; refine M0 (q_moveC rfl rfl rfl) rfl rfl ?_; refine M0 (Qt.grdF rfl rfl rfl .stop (fun hgrd => q_moveC rfl rfl rfl)) rfl rfl ?_
  refine M0 (Qt.grdF rfl rfl rfl (.hit .stop) (fun hgrd => q_moveC rfl rfl rfl)) rfl rfl ?_
  refine M0 (Qt.grdF rfl rfl rfl (.hit (.hit .stop)) (fun hgrd => q_moveC rfl rfl rfl)) rfl rfl ?_
  refine M0 (Qt.grdF rfl rfl rfl (.hit (.hit (.hit .stop))) (fun hgrd => q_sub rfl rfl rfl rfl (by omega))) rfl rfl ?_
  refine M0 (Qt.grdF rfl rfl rfl (.hit (.hit (.hit (.hit .stop)))) (fun hgrd => q_gtr rfl rfl rfl rfl)) rfl rfl ?_; refine M0 (q_or rfl rfl rfl rfl) rfl rfl ?_
  refine M0 (q_moveC rfl rfl rfl) rfl rfl ?_; refine M0 (Qt.grdF rfl rfl rfl .stop (fun hgrd => q_moveC rfl rfl rfl)) rfl rfl ?_
  refine M0 (Qt.grdF rfl rfl rfl (.hit .stop) (fun hgrd => q_moveC rfl rfl rfl)) rfl rfl ?_
  refine M0 (Qt.grdF rfl rfl rfl (.hit (.hit .stop)) (fun hgrd => q_moveC rfl rfl rfl)) rfl rfl ?_
  refine M0 (Qt.grdF rfl rfl rfl (.hit (.hit (.hit .stop))) (fun hgrd => q_sub rfl rfl rfl rfl (by omega))) rfl rfl ?_
  refine M0 (Qt.grdF rfl rfl rfl (.hit (.hit (.hit (.hit .stop)))) (fun hgrd => q_gtr rfl rfl rfl rfl)) rfl rfl ?_; refine M0 (q_or rfl rfl rfl rfl) rfl rfl ?_; refine L_nil ?_
  refine T_n ?_
  refine A_cond rfl (fun h => ?_) (fun h => ?_)
  · simp only [Bool.or_eq_true, decide_eq_true_eq] at h
    rw [solidM_T (out_hits hw h1 (by omega))]
    refine A_seq ?_; refine A_region ?_; refine M0 (q_assignC rfl rfl rfl) rfl rfl ?_; refine L_nil ?_; refine T_n ?_; refine A_ret ?_; refine T_r ?_; refine F_r ?_
    exact E_tmp rfl rfl (W_end [] (by decide) rfl rfl rfl)
  simp only [Bool.or_eq_false_iff, decide_eq_false_iff_not] at h
  refine A_skip ?_; refine T_n ?_; refine A_seq ?_; refine A_seq ?_; refine A_region ?_; refine M0 (q_moveC rfl rfl rfl) rfl rfl ?_; refine M0 (q_quo rfl rfl rfl rfl (by omega)) rfl rfl ?_
  refine M0 (q_assignC rfl rfl rfl) rfl rfl ?_; refine L_nil ?_; refine T_n ?_; refine A_block ?_
  refine A_loop (fun m__ st => ∃ (r : Nat), ((y + s - 1) / 16 + 1).toNat - r = m__ ∧ (y / 16 ≤ r ∧ (r : Int) ≤ (y + s - 1) / 16 + 1 ∧ freeR l x s (y / 16) r) ∧ st = (fun (r : Nat) => (⟨_, [(1, I x), (2, I y), (3, I s), (4, .o (.c (.ptr 0 0))), (11, I r)], [.box ((Enc.e l).map (V1.rd []))]⟩ : St)) (r)) ((fun (r : Nat) => ((y + s - 1) / 16 + 1).toNat - r) ((y / 16).toNat)) ⟨(fun (r : Nat) => (⟨_, [(1, I x), (2, I y), (3, I s), (4, .o (.c (.ptr 0 0))), (11, I r)], [.box ((Enc.e l).map (V1.rd []))]⟩ : St)) ((y / 16).toNat), W_go [0] (by decide) rfl (rfl) (.cons rfl (.cons rfl (.cons rfl (.cons rfl (.cons (I_eq (by omega)) (.nil)))))), (y / 16).toNat, rfl, ⟨by omega, by omega, fun r c h1 h2 => by omega⟩, rfl⟩ ?_
  rintro m_A _ ⟨r, hk_A, hp_A, rfl⟩
  obtain ⟨hr1, hr2, hfr⟩ := hp_A
  refine A_seq ?_; refine A_seq ?_; refine A_region ?_; refine M0 (q_moveC rfl rfl rfl) rfl rfl ?_; refine M0 (q_moveC rfl rfl rfl) rfl rfl ?_; refine M0 (q_moveC rfl rfl rfl) rfl rfl ?_
  refine M0 (q_add rfl rfl rfl rfl (by omega)) rfl rfl ?_; refine M0 (q_sub rfl rfl rfl rfl (by omega)) rfl rfl ?_; refine M0 (q_quo rfl rfl rfl rfl (by omega)) rfl rfl ?_
  refine M0 (q_leq rfl rfl rfl rfl) rfl rfl ?_; refine L_nil ?_; refine T_n ?_
  refine A_cond rfl (fun h5 => ?_) (fun h5 => ?_)
  · have h5 := of_decide_eq_true h5
    have hrl : r < l.Rows.length := by omega
    have hat := els_at hrl
    have hwr := hw r hrl
    refine A_skip ?_; refine T_n ?_; refine A_seq ?_; refine A_block ?_; refine A_seq ?_; refine A_region ?_; refine M0 (q_moveC rfl rfl rfl) rfl rfl ?_
    refine M0 (q_quo rfl rfl rfl rfl (by omega)) rfl rfl ?_; refine M0 (q_assignC rfl rfl rfl) rfl rfl ?_; refine L_nil ?_; refine T_n ?_; refine A_block ?_
    refine A_loop (fun m__ st => ∃ (c : Nat), ((x + s - 1) / 16 + 1).toNat - c = m__ ∧ (x / 16 ≤ c ∧ (c : Int) ≤ (x + s - 1) / 16 + 1 ∧ freeC l r (x / 16) c) ∧ st = (fun (c : Nat) => (⟨_, [(1, I x), (2, I y), (3, I s), (4, .o (.c (.ptr 0 0))), (11, I r), (12, I c)], [.box ((Enc.e l).map (V1.rd []))]⟩ : St)) (c)) ((fun (c : Nat) => ((x + s - 1) / 16 + 1).toNat - c) ((x / 16).toNat)) ⟨(fun (c : Nat) => (⟨_, [(1, I x), (2, I y), (3, I s), (4, .o (.c (.ptr 0 0))), (11, I r), (12, I c)], [.box ((Enc.e l).map (V1.rd []))]⟩ : St)) ((x / 16).toNat), W_go [0] (by decide) rfl (rfl) (.cons rfl (.cons rfl (.cons rfl (.cons rfl (.cons rfl (.cons (I_eq (by omega)) (.nil))))))), (x / 16).toNat, rfl, ⟨by omega, by omega, fun c h1 h2 => by omega⟩, rfl⟩ ?_
    rintro m_B _ ⟨c, hk_B, hp_B, rfl⟩
    obtain ⟨hc1, hc2, hfc⟩ := hp_B
    refine A_seq ?_; refine A_seq ?_; refine A_region ?_; refine M0 (q_moveC rfl rfl rfl) rfl rfl ?_; refine M0 (q_moveC rfl rfl rfl) rfl rfl ?_; refine M0 (q_moveC rfl rfl rfl) rfl rfl ?_
    refine M0 (q_add rfl rfl rfl rfl (by omega)) rfl rfl ?_; refine M0 (q_sub rfl rfl rfl rfl (by omega)) rfl rfl ?_; refine M0 (q_quo rfl rfl rfl rfl (by omega)) rfl rfl ?_
    refine M0 (q_leq rfl rfl rfl rfl) rfl rfl ?_; refine L_nil ?_; refine T_n ?_
    refine A_cond rfl (fun h6 => ?_) (fun h6 => ?_)
    · have h6 := of_decide_eq_true h6
      refine A_skip ?_; refine T_n ?_; refine A_seq ?_; refine A_block ?_; refine A_seq ?_; refine A_region ?_; refine M0 (q_fldp rfl rfl rfl rfl (by decide)) rfl rfl ?_
      refine M0 (q_ld1 rfl rfl rfl rfl rfl) rfl rfl ?_; refine M0 (q_moveC rfl rfl rfl) rfl rfl ?_; refine M0 (q_at rfl rfl rfl rfl (by omega) (by assumption) rfl) rfl rfl ?_
      refine M0 (q_lr1 rfl rfl rfl rfl) rfl rfl ?_; refine M0 (q_moveC rfl rfl rfl) rfl rfl ?_; refine M0 (q_byte rfl rfl rfl rfl (by omega)) rfl rfl ?_
      refine M0 (q_eql rfl rfl rfl rfl) rfl rfl ?_; refine L_nil ?_; refine T_n ?_
      refine A_cond rfl (fun h7 => ?_) (fun h7 => ?_)
      · have h7 := of_decide_eq_true h7
        rw [solidM_T ⟨(r : Int), (c : Int), hr1, by omega, hc1, by omega, wall_tile hrl h7⟩]
        refine A_seq ?_; refine A_region ?_; refine M0 (q_assignC rfl rfl rfl) rfl rfl ?_; refine L_nil ?_; refine T_n ?_; refine A_ret ?_; refine B_r ?_; refine T_r ?_; refine T_r ?_; refine B_r ?_
        refine B_r ?_; refine T_r ?_; refine T_r ?_; refine B_r ?_; refine T_r ?_; refine F_r ?_
        exact E_tmp rfl rfl (W_end [] (by decide) rfl rfl rfl)
      · have h7 := of_decide_eq_false h7
        refine A_skip ?_; refine B_n ?_; refine T_n ?_; refine A_region ?_; refine M0 (q_moveC rfl rfl rfl) rfl rfl ?_; refine M0 (q_add rfl rfl rfl rfl (by omega)) rfl rfl ?_
        refine M0 (q_assignC rfl rfl rfl) rfl rfl ?_; refine L_nil ?_; refine T_n ?_
        refine ⟨((x + s - 1) / 16 + 1).toNat - (c + 1), (by omega), (fun (c : Nat) => (⟨_, [(1, I x), (2, I y), (3, I s), (4, .o (.c (.ptr 0 0))), (11, I r), (12, I c)], [.box ((Enc.e l).map (V1.rd []))]⟩ : St)) (c + 1), W_go [0] (by decide) rfl (rfl) (.cons rfl (.cons rfl (.cons rfl (.cons rfl (.cons rfl (.cons rfl (.nil))))))), c + 1, rfl, ⟨by omega, by omega, free_col hfc (no_wall hrl (by omega) h7)⟩, rfl⟩
    · have h6 := of_decide_eq_false h6
      refine A_exit ?_; refine T_x ?_; refine T_x ?_; refine B_xs ?_; refine B_n ?_; refine T_n ?_; refine A_region ?_; refine M0 (q_moveC rfl rfl rfl) rfl rfl ?_
      refine M0 (q_add rfl rfl rfl rfl (by omega)) rfl rfl ?_; refine M0 (q_assignC rfl rfl rfl) rfl rfl ?_; refine L_nil ?_; refine T_n ?_
      refine ⟨((y + s - 1) / 16 + 1).toNat - (r + 1), (by omega), (fun (r : Nat) => (⟨_, [(1, I x), (2, I y), (3, I s), (4, .o (.c (.ptr 0 0))), (11, I r)], [.box ((Enc.e l).map (V1.rd []))]⟩ : St)) (r + 1), W_go [0] (by decide) rfl (rfl) (.cons rfl (.cons rfl (.cons rfl (.cons rfl (.cons rfl (.nil)))))), r + 1, rfl, ⟨by omega, by omega, free_row hfr hfc (by omega)⟩, rfl⟩
  · have h5 := of_decide_eq_false h5
    rw [solidM_F (free_all hfr (by omega))]
    refine A_exit ?_; refine T_x ?_; refine T_x ?_; refine B_xs ?_; refine T_n ?_; refine A_seq ?_; refine A_region ?_; refine M0 (q_assignC rfl rfl rfl) rfl rfl ?_; refine L_nil ?_; refine T_n ?_
    refine A_ret ?_; refine F_r ?_
    exact E_tmp rfl rfl (W_end [] (by decide) rfl rfl rfl)
set_option maxHeartbeats 8000000 in
theorem S_l02Solid (l : TLevel) (x y s : Int) (hl : levelOk l = true) (hx : I64 x) (hy : I64 y) (h1 : 1 ≤ s) (h16 : s ≤ 16) : Con Try.prog 134 [] [ag l, ai x, ai y, ai s] [] (B (solidM l x y s)) := by
  obtain ⟨hx1, hx2⟩ := hx
  obtain ⟨hy1, hy2⟩ := hy
  obtain ⟨f3, f12, w, w4, w20, hw⟩ := level_facts hl
  have hlx := els_len l.Rows
  refine Con.of Try.func134 rfl Try.ntmps134 rfl (fun E => ?_)
  refine A_seq ?_; refine A_region ?_; refine M1 (q_boxN rfl rfl rfl rfl) rfl rfl ?_; refine M0 (q_assignC rfl rfl rfl) rfl rfl ?_; refine L_nil ?_; refine T_n ?_; refine A_seq ?_; refine A_seq ?_
  refine A_region ?_; refine M0 (q_moveC rfl rfl rfl) rfl rfl ?_; refine M0 (q_call0 rfl rfl (S_in x 0 1000) rfl) rfl rfl ?_; refine M0 (q_not rfl rfl rfl) rfl rfl ?_
  refine M0 (q_moveC rfl rfl rfl) rfl rfl ?_; refine M0 (Qt.grdF rfl rfl rfl .stop (fun hgrd => q_moveC rfl rfl rfl)) rfl rfl ?_
  refine M0 (Qt.grdF rfl rfl rfl (.hit .stop) (fun hgrd => q_call0 rfl rfl (S_in y 0 1000) rfl)) rfl rfl ?_
  refine M0 (Qt.grdF rfl rfl rfl (.hit (.hit .stop)) (fun hgrd => q_not rfl rfl rfl)) rfl rfl ?_; refine M0 (q_or rfl rfl rfl rfl) rfl rfl ?_; refine L_nil ?_; refine T_n ?_
  refine A_cond rfl (fun h => ?_) (fun h => ?_)
  · have h : ¬ (0 ≤ x ∧ x ≤ 1000) ∨ ¬ (0 ≤ y ∧ y ≤ 1000) := by
      rw [← inR_iff, ← inR_iff]
      simpa using h
    rw [solidM_T (out_hits hw h1 (by omega))]
    refine A_seq ?_; refine A_region ?_; refine M0 (q_assignC rfl rfl rfl) rfl rfl ?_; refine L_nil ?_; refine T_n ?_; refine A_ret ?_; refine T_r ?_; refine F_r ?_
    exact E_tmp rfl rfl (W_end [] (by decide) rfl rfl rfl)
  have h : (0 ≤ x ∧ x ≤ 1000) ∧ (0 ≤ y ∧ y ≤ 1000) := by
    rw [← inR_iff, ← inR_iff]
    simpa using h
  refine A_skip ?_; refine T_n ?_; refine A_seq ?_; refine A_seq ?_; refine A_region ?_; refine M0 (q_moveC rfl rfl rfl) rfl rfl ?_; refine M0 (q_quo rfl rfl rfl rfl (by omega)) rfl rfl ?_
  refine M0 (q_assignC rfl rfl rfl) rfl rfl ?_; refine L_nil ?_; refine T_n ?_; refine A_block ?_
  refine A_loop (fun m__ st => ∃ (r : Nat), ((y + s - 1) / 16 + 1).toNat - r = m__ ∧ (y / 16 ≤ r ∧ (r : Int) ≤ (y + s - 1) / 16 + 1 ∧ freeR l x s (y / 16) r) ∧ st = (fun (r : Nat) => (⟨_, [(1, I x), (2, I y), (3, I s), (4, .o (.c (.ptr 0 0))), (9, I r)], [.box ((Enc.e l).map (V1.rd []))]⟩ : St)) (r)) ((fun (r : Nat) => ((y + s - 1) / 16 + 1).toNat - r) ((y / 16).toNat)) ⟨(fun (r : Nat) => (⟨_, [(1, I x), (2, I y), (3, I s), (4, .o (.c (.ptr 0 0))), (9, I r)], [.box ((Enc.e l).map (V1.rd []))]⟩ : St)) ((y / 16).toNat), W_go [0] (by decide) rfl (rfl) (.cons rfl (.cons rfl (.cons rfl (.cons rfl (.cons (I_eq (by omega)) (.nil)))))), (y / 16).toNat, rfl, ⟨by omega, by omega, fun r c h1 h2 => by omega⟩, rfl⟩ ?_
  rintro m_A _ ⟨r, hk_A, hp_A, rfl⟩
  obtain ⟨hr1, hr2, hfr⟩ := hp_A
  refine A_seq ?_; refine A_seq ?_; refine A_region ?_; refine M0 (q_moveC rfl rfl rfl) rfl rfl ?_; refine M0 (q_moveC rfl rfl rfl) rfl rfl ?_; refine M0 (q_moveC rfl rfl rfl) rfl rfl ?_
  refine M0 (q_add rfl rfl rfl rfl (by omega)) rfl rfl ?_; refine M0 (q_sub rfl rfl rfl rfl (by omega)) rfl rfl ?_; refine M0 (q_quo rfl rfl rfl rfl (by omega)) rfl rfl ?_
  refine M0 (q_leq rfl rfl rfl rfl) rfl rfl ?_; refine L_nil ?_; refine T_n ?_
  refine A_cond rfl (fun h5 => ?_) (fun h5 => ?_)
  · have h5 := of_decide_eq_true h5
    refine A_skip ?_; refine T_n ?_; refine A_seq ?_; refine A_block ?_; refine A_seq ?_; refine A_region ?_; refine M0 (q_moveC rfl rfl rfl) rfl rfl ?_
    refine M0 (q_quo rfl rfl rfl rfl (by omega)) rfl rfl ?_; refine M0 (q_assignC rfl rfl rfl) rfl rfl ?_; refine L_nil ?_; refine T_n ?_; refine A_block ?_
    refine A_loop (fun m__ st => ∃ (c : Nat), ((x + s - 1) / 16 + 1).toNat - c = m__ ∧ (x / 16 ≤ c ∧ (c : Int) ≤ (x + s - 1) / 16 + 1 ∧ freeC l r (x / 16) c) ∧ st = (fun (c : Nat) => (⟨_, [(1, I x), (2, I y), (3, I s), (4, .o (.c (.ptr 0 0))), (9, I r), (10, I c)], [.box ((Enc.e l).map (V1.rd []))]⟩ : St)) (c)) ((fun (c : Nat) => ((x + s - 1) / 16 + 1).toNat - c) ((x / 16).toNat)) ⟨(fun (c : Nat) => (⟨_, [(1, I x), (2, I y), (3, I s), (4, .o (.c (.ptr 0 0))), (9, I r), (10, I c)], [.box ((Enc.e l).map (V1.rd []))]⟩ : St)) ((x / 16).toNat), W_go [0] (by decide) rfl (rfl) (.cons rfl (.cons rfl (.cons rfl (.cons rfl (.cons rfl (.cons (I_eq (by omega)) (.nil))))))), (x / 16).toNat, rfl, ⟨by omega, by omega, fun c h1 h2 => by omega⟩, rfl⟩ ?_
    rintro m_B _ ⟨c, hk_B, hp_B, rfl⟩
    obtain ⟨hc1, hc2, hfc⟩ := hp_B
    refine A_seq ?_; refine A_seq ?_; refine A_region ?_; refine M0 (q_moveC rfl rfl rfl) rfl rfl ?_; refine M0 (q_moveC rfl rfl rfl) rfl rfl ?_; refine M0 (q_moveC rfl rfl rfl) rfl rfl ?_
    refine M0 (q_add rfl rfl rfl rfl (by omega)) rfl rfl ?_; refine M0 (q_sub rfl rfl rfl rfl (by omega)) rfl rfl ?_; refine M0 (q_quo rfl rfl rfl rfl (by omega)) rfl rfl ?_
    refine M0 (q_leq rfl rfl rfl rfl) rfl rfl ?_; refine L_nil ?_; refine T_n ?_
    refine A_cond rfl (fun h6 => ?_) (fun h6 => ?_)
    · have h6 := of_decide_eq_true h6
      by_cases hrl : r < l.Rows.length
      · have hat := els_at hrl
        have hb : decide (((els l.Rows).length : Int) ≤ r) = false := decide_eq_false (by omega)
        by_cases hcl : c < (l.Rows[r]).size
        · have hb2 : decide (((l.Rows[r]).size : Int) ≤ c) = false := decide_eq_false (by omega)
          by_cases h7 : byteAt (l.Rows[r]) c = 35
          · have hb3 : decide (byteAt (l.Rows[r]) (c : Int).toNat = 35) = true := decide_eq_true h7
            rw [solidM_T ⟨(r : Int), (c : Int), hr1, by omega, hc1, by omega, wall_tile hrl h7⟩]
            refine A_skip ?_; refine T_n ?_; refine A_seq ?_; refine A_block ?_; refine A_seq ?_; refine A_region ?_; refine M0 (q_moveC rfl rfl rfl) rfl rfl ?_
            refine M0 (q_fldp rfl rfl rfl rfl (by decide)) rfl rfl ?_; refine M0 (q_ld1 rfl rfl rfl rfl rfl) rfl rfl ?_; refine M0 (q_len rfl rfl rfl) rfl rfl ?_
            refine M0 (q_geqK rfl rfl rfl rfl (by assumption)) rfl rfl ?_; refine M0 (q_moveC rfl rfl rfl) rfl rfl ?_; refine M_yes rfl rfl rfl ?_; refine M0 (q_moveC rfl rfl rfl) rfl rfl ?_
            refine M_yes rfl rfl rfl ?_; refine M0 (q_fldp rfl rfl rfl rfl (by decide)) rfl rfl ?_; refine M_yes rfl rfl rfl ?_; refine M0 (q_ld1 rfl rfl rfl rfl rfl) rfl rfl ?_
            refine M_yes rfl rfl rfl ?_; refine M0 (q_moveC rfl rfl rfl) rfl rfl ?_; refine M_yes rfl rfl rfl ?_; refine M0 (q_at rfl rfl rfl rfl (by omega) (by assumption) rfl) rfl rfl ?_
            refine M_yes rfl rfl rfl ?_; refine M0 (q_lr1 rfl rfl rfl rfl) rfl rfl ?_; refine M_yes rfl rfl rfl ?_; refine M0 (q_lens rfl rfl rfl) rfl rfl ?_; refine M_yes rfl rfl rfl ?_
            refine M0 (q_geqK rfl rfl rfl rfl (by assumption)) rfl rfl ?_; refine M0 (q_pickF rfl rfl rfl rfl) rfl rfl ?_; refine M0 (q_moveC rfl rfl rfl) rfl rfl ?_; refine M_yes rfl rfl rfl ?_
            refine M0 (q_fldp rfl rfl rfl rfl (by decide)) rfl rfl ?_; refine M_yes rfl rfl rfl ?_; refine M0 (q_ld1 rfl rfl rfl rfl rfl) rfl rfl ?_; refine M_yes rfl rfl rfl ?_
            refine M0 (q_moveC rfl rfl rfl) rfl rfl ?_; refine M_yes rfl rfl rfl ?_; refine M0 (q_at rfl rfl rfl rfl (by omega) (by assumption) rfl) rfl rfl ?_; refine M_yes rfl rfl rfl ?_
            refine M0 (q_lr1 rfl rfl rfl rfl) rfl rfl ?_; refine M_yes rfl rfl rfl ?_; refine M0 (q_moveC rfl rfl rfl) rfl rfl ?_; refine M_yes rfl rfl rfl ?_
            refine M0 (q_byteK rfl rfl rfl rfl (by assumption) (by omega)) rfl rfl ?_; refine M_yes rfl rfl rfl ?_; refine M0 (q_eqlK (b := true) rfl rfl rfl rfl (by decide)) rfl rfl ?_
            refine M0 (q_pickF rfl rfl rfl rfl) rfl rfl ?_; refine L_nil ?_; refine T_n ?_; refine A_ifT rfl ?_; refine A_seq ?_; refine A_region ?_; refine M0 (q_assignC rfl rfl rfl) rfl rfl ?_
            refine L_nil ?_; refine T_n ?_; refine A_ret ?_; refine B_r ?_; refine T_r ?_; refine T_r ?_; refine B_r ?_; refine B_r ?_; refine T_r ?_; refine T_r ?_; refine B_r ?_; refine T_r ?_; refine F_r ?_
            exact E_tmp rfl rfl (W_end [] (by decide) rfl rfl rfl)
          · have hb3 : decide (byteAt (l.Rows[r]) (c : Int).toNat = 35) = false := decide_eq_false h7
            refine A_skip ?_; refine T_n ?_; refine A_seq ?_; refine A_block ?_; refine A_seq ?_; refine A_region ?_; refine M0 (q_moveC rfl rfl rfl) rfl rfl ?_
            refine M0 (q_fldp rfl rfl rfl rfl (by decide)) rfl rfl ?_; refine M0 (q_ld1 rfl rfl rfl rfl rfl) rfl rfl ?_; refine M0 (q_len rfl rfl rfl) rfl rfl ?_
            refine M0 (q_geqK rfl rfl rfl rfl (by assumption)) rfl rfl ?_; refine M0 (q_moveC rfl rfl rfl) rfl rfl ?_; refine M_yes rfl rfl rfl ?_; refine M0 (q_moveC rfl rfl rfl) rfl rfl ?_
            refine M_yes rfl rfl rfl ?_; refine M0 (q_fldp rfl rfl rfl rfl (by decide)) rfl rfl ?_; refine M_yes rfl rfl rfl ?_; refine M0 (q_ld1 rfl rfl rfl rfl rfl) rfl rfl ?_
            refine M_yes rfl rfl rfl ?_; refine M0 (q_moveC rfl rfl rfl) rfl rfl ?_; refine M_yes rfl rfl rfl ?_; refine M0 (q_at rfl rfl rfl rfl (by omega) (by assumption) rfl) rfl rfl ?_
            refine M_yes rfl rfl rfl ?_; refine M0 (q_lr1 rfl rfl rfl rfl) rfl rfl ?_; refine M_yes rfl rfl rfl ?_; refine M0 (q_lens rfl rfl rfl) rfl rfl ?_; refine M_yes rfl rfl rfl ?_
            refine M0 (q_geqK rfl rfl rfl rfl (by assumption)) rfl rfl ?_; refine M0 (q_pickF rfl rfl rfl rfl) rfl rfl ?_; refine M0 (q_moveC rfl rfl rfl) rfl rfl ?_; refine M_yes rfl rfl rfl ?_
            refine M0 (q_fldp rfl rfl rfl rfl (by decide)) rfl rfl ?_; refine M_yes rfl rfl rfl ?_; refine M0 (q_ld1 rfl rfl rfl rfl rfl) rfl rfl ?_; refine M_yes rfl rfl rfl ?_
            refine M0 (q_moveC rfl rfl rfl) rfl rfl ?_; refine M_yes rfl rfl rfl ?_; refine M0 (q_at rfl rfl rfl rfl (by omega) (by assumption) rfl) rfl rfl ?_; refine M_yes rfl rfl rfl ?_
            refine M0 (q_lr1 rfl rfl rfl rfl) rfl rfl ?_; refine M_yes rfl rfl rfl ?_; refine M0 (q_moveC rfl rfl rfl) rfl rfl ?_; refine M_yes rfl rfl rfl ?_
            refine M0 (q_byte rfl rfl rfl rfl (by omega)) rfl rfl ?_; refine M_yes rfl rfl rfl ?_; refine M0 (q_eqlK rfl rfl rfl rfl (by assumption)) rfl rfl ?_
            refine M0 (q_pickF rfl rfl rfl rfl) rfl rfl ?_; refine L_nil ?_; refine T_n ?_; refine A_ifF rfl ?_; refine A_skip ?_; refine B_n ?_; refine T_n ?_; refine A_region ?_
            refine M0 (q_moveC rfl rfl rfl) rfl rfl ?_; refine M0 (q_add rfl rfl rfl rfl (by omega)) rfl rfl ?_; refine M0 (q_assignC rfl rfl rfl) rfl rfl ?_; refine L_nil ?_; refine T_n ?_
            refine ⟨((x + s - 1) / 16 + 1).toNat - (c + 1), (by omega), (fun (c : Nat) => (⟨_, [(1, I x), (2, I y), (3, I s), (4, .o (.c (.ptr 0 0))), (9, I r), (10, I c)], [.box ((Enc.e l).map (V1.rd []))]⟩ : St)) (c + 1), W_go [0] (by decide) rfl (rfl) (.cons rfl (.cons rfl (.cons rfl (.cons rfl (.cons rfl (.cons rfl (.nil))))))), c + 1, rfl, ⟨by omega, by omega, free_col hfc (no_wall hrl hcl h7)⟩, rfl⟩
        · have hb2 : decide (((l.Rows[r]).size : Int) ≤ c) = true := decide_eq_true (by omega)
          rw [solidM_T ⟨(r : Int), (c : Int), hr1, by omega, hc1, by omega, fun q hq e g0 g1 => by have : q = r := (by omega); subst this; omega⟩]
          refine A_skip ?_; refine T_n ?_; refine A_seq ?_; refine A_block ?_; refine A_seq ?_; refine A_region ?_; refine M0 (q_moveC rfl rfl rfl) rfl rfl ?_
          refine M0 (q_fldp rfl rfl rfl rfl (by decide)) rfl rfl ?_; refine M0 (q_ld1 rfl rfl rfl rfl rfl) rfl rfl ?_; refine M0 (q_len rfl rfl rfl) rfl rfl ?_
          refine M0 (q_geqK rfl rfl rfl rfl (by assumption)) rfl rfl ?_; refine M0 (q_moveC rfl rfl rfl) rfl rfl ?_; refine M_yes rfl rfl rfl ?_; refine M0 (q_moveC rfl rfl rfl) rfl rfl ?_
          refine M_yes rfl rfl rfl ?_; refine M0 (q_fldp rfl rfl rfl rfl (by decide)) rfl rfl ?_; refine M_yes rfl rfl rfl ?_; refine M0 (q_ld1 rfl rfl rfl rfl rfl) rfl rfl ?_
          refine M_yes rfl rfl rfl ?_; refine M0 (q_moveC rfl rfl rfl) rfl rfl ?_; refine M_yes rfl rfl rfl ?_; refine M0 (q_at rfl rfl rfl rfl (by omega) (by assumption) rfl) rfl rfl ?_
          refine M_yes rfl rfl rfl ?_; refine M0 (q_lr1 rfl rfl rfl rfl) rfl rfl ?_; refine M_yes rfl rfl rfl ?_; refine M0 (q_lens rfl rfl rfl) rfl rfl ?_; refine M_yes rfl rfl rfl ?_
          refine M0 (q_geqK rfl rfl rfl rfl (by assumption)) rfl rfl ?_; refine M0 (q_pickF rfl rfl rfl rfl) rfl rfl ?_; refine M0 (q_moveC rfl rfl rfl) rfl rfl ?_
          refine M_no rfl rfl rfl rfl rfl rfl ?_; refine M_no rfl rfl rfl rfl rfl rfl ?_; refine M_no rfl rfl rfl rfl rfl rfl ?_; refine M_no rfl rfl rfl rfl rfl rfl ?_
          refine M_no rfl rfl rfl rfl rfl rfl ?_; refine M_no rfl rfl rfl rfl rfl rfl ?_; refine M_no rfl rfl rfl rfl rfl rfl ?_; refine M_no rfl rfl rfl rfl rfl rfl ?_
          refine M0 (q_pickT rfl rfl rfl rfl) rfl rfl ?_; refine L_nil ?_; refine T_n ?_; refine A_ifT rfl ?_; refine A_seq ?_; refine A_region ?_; refine M0 (q_assignC rfl rfl rfl) rfl rfl ?_
          refine L_nil ?_; refine T_n ?_; refine A_ret ?_; refine B_r ?_; refine T_r ?_; refine T_r ?_; refine B_r ?_; refine B_r ?_; refine T_r ?_; refine T_r ?_; refine B_r ?_; refine T_r ?_; refine F_r ?_
          exact E_tmp rfl rfl (W_end [] (by decide) rfl rfl rfl)
      · have hb : decide (((els l.Rows).length : Int) ≤ r) = true := decide_eq_true (by omega)
        rw [solidM_T ⟨(r : Int), (c : Int), hr1, by omega, hc1, by omega, fun q hq e g0 g1 => by omega⟩]
        refine A_skip ?_; refine T_n ?_; refine A_seq ?_; refine A_block ?_; refine A_seq ?_; refine A_region ?_; refine M0 (q_moveC rfl rfl rfl) rfl rfl ?_
        refine M0 (q_fldp rfl rfl rfl rfl (by decide)) rfl rfl ?_; refine M0 (q_ld1 rfl rfl rfl rfl rfl) rfl rfl ?_; refine M0 (q_len rfl rfl rfl) rfl rfl ?_
        refine M0 (q_geqK rfl rfl rfl rfl (by assumption)) rfl rfl ?_; refine M0 (q_moveC rfl rfl rfl) rfl rfl ?_; refine M_no rfl rfl rfl rfl rfl rfl ?_; refine M_no rfl rfl rfl rfl rfl rfl ?_
        refine M_no rfl rfl rfl rfl rfl rfl ?_; refine M_no rfl rfl rfl rfl rfl rfl ?_; refine M_no rfl rfl rfl rfl rfl rfl ?_; refine M_no rfl rfl rfl rfl rfl rfl ?_
        refine M_no rfl rfl rfl rfl rfl rfl ?_; refine M_no rfl rfl rfl rfl rfl rfl ?_; refine M0 (q_pickT rfl rfl rfl rfl) rfl rfl ?_; refine M0 (q_moveC rfl rfl rfl) rfl rfl ?_
        refine M_no rfl rfl rfl rfl rfl rfl ?_; refine M_no rfl rfl rfl rfl rfl rfl ?_; refine M_no rfl rfl rfl rfl rfl rfl ?_; refine M_no rfl rfl rfl rfl rfl rfl ?_
        refine M_no rfl rfl rfl rfl rfl rfl ?_; refine M_no rfl rfl rfl rfl rfl rfl ?_; refine M_no rfl rfl rfl rfl rfl rfl ?_; refine M_no rfl rfl rfl rfl rfl rfl ?_
        refine M0 (q_pickT rfl rfl rfl rfl) rfl rfl ?_; refine L_nil ?_; refine T_n ?_; refine A_ifT rfl ?_; refine A_seq ?_; refine A_region ?_; refine M0 (q_assignC rfl rfl rfl) rfl rfl ?_
        refine L_nil ?_; refine T_n ?_; refine A_ret ?_; refine B_r ?_; refine T_r ?_; refine T_r ?_; refine B_r ?_; refine B_r ?_; refine T_r ?_; refine T_r ?_; refine B_r ?_; refine T_r ?_; refine F_r ?_
        exact E_tmp rfl rfl (W_end [] (by decide) rfl rfl rfl)
    · have h6 := of_decide_eq_false h6
      refine A_exit ?_; refine T_x ?_; refine T_x ?_; refine B_xs ?_; refine B_n ?_; refine T_n ?_; refine A_region ?_; refine M0 (q_moveC rfl rfl rfl) rfl rfl ?_
      refine M0 (q_add rfl rfl rfl rfl (by omega)) rfl rfl ?_; refine M0 (q_assignC rfl rfl rfl) rfl rfl ?_; refine L_nil ?_; refine T_n ?_
      refine ⟨((y + s - 1) / 16 + 1).toNat - (r + 1), (by omega), (fun (r : Nat) => (⟨_, [(1, I x), (2, I y), (3, I s), (4, .o (.c (.ptr 0 0))), (9, I r)], [.box ((Enc.e l).map (V1.rd []))]⟩ : St)) (r + 1), W_go [0] (by decide) rfl (rfl) (.cons rfl (.cons rfl (.cons rfl (.cons rfl (.cons rfl (.nil)))))), r + 1, rfl, ⟨by omega, by omega, free_row hfr hfc (by omega)⟩, rfl⟩
  · have h5 := of_decide_eq_false h5
    rw [solidM_F (free_all hfr (by omega))]
    refine A_exit ?_; refine T_x ?_; refine T_x ?_; refine B_xs ?_; refine T_n ?_; refine A_seq ?_; refine A_region ?_; refine M0 (q_assignC rfl rfl rfl) rfl rfl ?_; refine L_nil ?_; refine T_n ?_
    refine A_ret ?_; refine F_r ?_
    exact E_tmp rfl rfl (W_end [] (by decide) rfl rfl rfl)
noncomputable def solidAt (l : TLevel) (x y s : Int) : Bool := (!inR s 1 16 || !levelOk l) || solidM l x y s
set_option maxHeartbeats 8000000 in
theorem I_SolidAt (l : TLevel) (x y s : Int) (hg : Enc.gd l) (hx : I64 x) (hy : I64 y) : Con Try.prog 136 [] [ag l, ai x, ai y, ai s] [] (B (solidAt l x y s)) := by
  have hc := I_LevelOk l hg
  by_cases hs : ¬ (1 ≤ s ∧ s ≤ 16)
  · have hf : inR s 1 16 = false := by rw [← Bool.not_eq_true, inR_iff]; exact hs
    rw [show solidAt l x y s = true by rw [solidAt, hf]; rfl]
    refine Con.of Try.func136 rfl Try.ntmps136 rfl (fun E => ?_)
    refine A_seq ?_; refine A_region ?_; refine M1 (q_boxN rfl rfl rfl rfl) rfl rfl ?_; refine M0 (q_assignC rfl rfl rfl) rfl rfl ?_; refine L_nil ?_; refine T_n ?_; refine A_seq ?_; refine A_seq ?_
    refine A_region ?_; refine M0 (q_moveC rfl rfl rfl) rfl rfl ?_; refine M0 (q_lss rfl rfl rfl rfl) rfl rfl ?_; refine M0 (q_moveC rfl rfl rfl) rfl rfl ?_
    refine M0 (Qt.grdF rfl rfl rfl .stop (fun hgrd => q_moveC rfl rfl rfl)) rfl rfl ?_; refine M0 (Qt.grdF rfl rfl rfl (.hit .stop) (fun hgrd => q_gtr rfl rfl rfl rfl)) rfl rfl ?_
    refine M0 (q_or rfl rfl rfl rfl) rfl rfl ?_; refine M0 (q_moveC rfl rfl rfl) rfl rfl ?_; refine M0 (Qt.grdF rfl rfl rfl .stop (fun hgrd => q_ldN rfl rfl rfl rfl rfl rfl)) rfl rfl ?_
    refine M0 (Qt.grdF rfl rfl rfl (.hit .stop) (fun hgrd => q_call0 rfl rfl (hc) rfl)) rfl rfl ?_
    refine M0 (Qt.grdF rfl rfl rfl (.hit (.hit .stop)) (fun hgrd => q_not rfl rfl rfl)) rfl rfl ?_; refine M0 (q_or rfl rfl rfl rfl) rfl rfl ?_; refine L_nil ?_; refine T_n ?_
    refine A_cond rfl (fun h => ?_) (fun h => ?_)
    · refine A_seq ?_; refine A_region ?_; refine M0 (q_assignC rfl rfl rfl) rfl rfl ?_; refine L_nil ?_; refine T_n ?_; refine A_ret ?_; refine T_r ?_; refine F_r ?_
      exact E_tmp rfl rfl (W_end [] (by decide) rfl rfl rfl)
    · simp only [Bool.or_eq_false_iff, decide_eq_false_iff_not] at h
      omega
  have hs := Classical.not_not.1 hs
  have hb1 : decide (s < 1) = false := decide_eq_false (by omega)
  have hb2 : decide (16 < s) = false := decide_eq_false (by omega)
  cases ho : levelOk l with
  | false =>
    rw [ho] at hc
    rw [show solidAt l x y s = true by rw [solidAt, ho]; simp]
    refine Con.of Try.func136 rfl Try.ntmps136 rfl (fun E => ?_)
    refine A_seq ?_; refine A_region ?_; refine M1 (q_boxN rfl rfl rfl rfl) rfl rfl ?_; refine M0 (q_assignC rfl rfl rfl) rfl rfl ?_; refine L_nil ?_; refine T_n ?_; refine A_seq ?_; refine A_seq ?_
    refine A_region ?_; refine M0 (q_moveC rfl rfl rfl) rfl rfl ?_; refine M0 (q_lssK rfl rfl rfl rfl (by assumption)) rfl rfl ?_; refine M0 (q_moveC rfl rfl rfl) rfl rfl ?_
    refine M_yes rfl rfl rfl ?_; refine M0 (q_moveC rfl rfl rfl) rfl rfl ?_; refine M_yes rfl rfl rfl ?_; refine M0 (q_gtrK rfl rfl rfl rfl (by assumption)) rfl rfl ?_
    refine M0 (q_pickF rfl rfl rfl rfl) rfl rfl ?_; refine M0 (q_moveC rfl rfl rfl) rfl rfl ?_; refine M_yes rfl rfl rfl ?_; refine M0 (q_ldN rfl rfl rfl rfl rfl rfl) rfl rfl ?_
    refine M_yes rfl rfl rfl ?_; refine M0 (q_call0 rfl rfl (hc) rfl) rfl rfl ?_; refine M_yes rfl rfl rfl ?_; refine M0 (q_not rfl rfl rfl) rfl rfl ?_
    refine M0 (q_pickF rfl rfl rfl rfl) rfl rfl ?_; refine L_nil ?_; refine T_n ?_; refine A_ifT rfl ?_; refine A_seq ?_; refine A_region ?_; refine M0 (q_assignC rfl rfl rfl) rfl rfl ?_
    refine L_nil ?_; refine T_n ?_; refine A_ret ?_; refine T_r ?_; refine F_r ?_
    exact E_tmp rfl rfl (W_end [] (by decide) rfl rfl rfl)
  | true =>
    rw [ho] at hc
    rw [show solidAt l x y s = solidM l x y s by rw [solidAt, ho, inR_iff.2 hs]; rfl]
    have hd := I_solid l x y s ho hx hy hs.1 hs.2
    refine Con.of Try.func136 rfl Try.ntmps136 rfl (fun E => ?_)
    refine A_seq ?_; refine A_region ?_; refine M1 (q_boxN rfl rfl rfl rfl) rfl rfl ?_; refine M0 (q_assignC rfl rfl rfl) rfl rfl ?_; refine L_nil ?_; refine T_n ?_; refine A_seq ?_; refine A_seq ?_
    refine A_region ?_; refine M0 (q_moveC rfl rfl rfl) rfl rfl ?_; refine M0 (q_lssK rfl rfl rfl rfl (by assumption)) rfl rfl ?_; refine M0 (q_moveC rfl rfl rfl) rfl rfl ?_
    refine M_yes rfl rfl rfl ?_; refine M0 (q_moveC rfl rfl rfl) rfl rfl ?_; refine M_yes rfl rfl rfl ?_; refine M0 (q_gtrK rfl rfl rfl rfl (by assumption)) rfl rfl ?_
    refine M0 (q_pickF rfl rfl rfl rfl) rfl rfl ?_; refine M0 (q_moveC rfl rfl rfl) rfl rfl ?_; refine M_yes rfl rfl rfl ?_; refine M0 (q_ldN rfl rfl rfl rfl rfl rfl) rfl rfl ?_
    refine M_yes rfl rfl rfl ?_; refine M0 (q_call0 rfl rfl (hc) rfl) rfl rfl ?_; refine M_yes rfl rfl rfl ?_; refine M0 (q_not rfl rfl rfl) rfl rfl ?_
    refine M0 (q_pickF rfl rfl rfl rfl) rfl rfl ?_; refine L_nil ?_; refine T_n ?_; refine A_ifF rfl ?_; refine A_skip ?_; refine T_n ?_; refine A_seq ?_; refine A_region ?_
    refine M0 (q_ldN rfl rfl rfl rfl rfl rfl) rfl rfl ?_; refine M0 (q_moveC rfl rfl rfl) rfl rfl ?_; refine M0 (q_moveC rfl rfl rfl) rfl rfl ?_; refine M0 (q_moveC rfl rfl rfl) rfl rfl ?_
    refine M0 (q_call0 rfl rfl (hd) rfl) rfl rfl ?_; refine M0 (q_assignC rfl rfl rfl) rfl rfl ?_; refine L_nil ?_; refine T_n ?_; refine A_ret ?_; refine F_r ?_
    exact E_tmp rfl rfl (W_end [] (by decide) rfl rfl rfl)
end Go.Proofs.Ytbpebmolbdplmaa
end

section
set_option linter.unusedSimpArgs false
set_option linter.unusedVariables false
set_option maxRecDepth 8000
namespace Go.Proofs.Ytbpebmolbdplmaa
open Go.RowKit

/-- Aim, Life and Timer by the kind. -/
def tailM (b : TBody) : Bool :=
  if b.Kind = 0 then (decide (b.Aim = 1 ∨ b.Aim = -1) && inR b.Life 0 3) && (if b.Life = 0 then inR b.Timer 1 20 else inR b.Timer 0 12)
  else if b.Kind = 1 then decide (b.Aim = 0 ∧ b.Life = 0) && inR b.Timer 1 25
  else decide (b.Owner = 0 ∧ b.Aim = 0 ∧ b.Life = 0 ∧ b.Timer = 0)
noncomputable def bodyM (l : TLevel) (n : Int) (b : TBody) : Bool :=
  inR b.Kind 0 2 && (inR b.Owner 0 (n - 1) && (!solidM l b.X b.Y (sizeOf b.Kind) && (inR b.VX (-15) 15 && (inR b.VY (-15) 15 && tailM b))))
theorem size_in {k : Int} (h : inR k 0 2 = true) : 1 ≤ sizeOf k ∧ sizeOf k ≤ 16 := by
  have := inR_iff.1 h
  unfold sizeOf
  split
  · omega
  · split
    · omega
    · split <;> omega
set_option maxHeartbeats 8000000 in
theorem S_l02Body (l : TLevel) (n : Int) (b : TBody) (hg : Enc.gd l) (hl : levelOk l = true) (hb : Enc.gd b) (hn : 0 ≤ n ∧ n ≤ 1099511627776) : Con Try.prog 117 [] [ag l, ai n, ag b] [] (B (bodyM l n b)) := by
  obtain ⟨b1, b2, b3, b4, b5, b6, b7, b8, b9⟩ := hb
  have h1 := S_in b.Kind 0 2
  have hsz := S_SizeOf b.Kind
  have h2 := S_in b.Owner 0 (n - 1)
  have h4 := S_in b.VX (-15) 15
  have h5 := S_in b.VY (-15) 15
  cases e1 : inR b.Kind 0 2 with
  | false =>
    rw [e1] at h1
    rw [show bodyM l n b = false by rw [bodyM, e1]; rfl]
    refine Con.of Try.func117 rfl Try.ntmps117 rfl (fun E => ?_)
    refine A_seq ?_; refine A_region ?_; refine M1 (q_boxN rfl rfl rfl rfl) rfl rfl ?_; refine M1 (q_boxN rfl rfl rfl rfl) rfl rfl ?_; refine M0 (q_assignC rfl rfl rfl) rfl rfl ?_
    refine L_nil ?_; refine T_n ?_; refine A_seq ?_; refine A_seq ?_
    refine A_draw [[], [0], [0, 1], [0, 1, 2], [0, 1, 2, 3], [0, 1, 2, 3, 4], [0, 1, 2, 3, 4, 5], [0, 1, 2, 3, 4], [0, 1, 2, 3, 4, 7], [0, 1, 2, 3, 4, 5, 6, 7, 8], [0, 1, 2, 3, 4, 5, 6, 7, 8, 9], [0, 1, 2, 3, 4, 5, 6, 7, 8, 9, 10], [0, 1, 2, 3, 4, 5, 6, 7, 8, 9, 10, 11], [0, 1, 2, 3, 4, 5, 6, 7, 8, 9, 10, 11, 12], [0, 1, 2, 3, 4, 5, 6, 7, 8, 9, 10, 11, 12], [0, 1, 2, 3, 4, 5, 6, 7, 8, 9, 10, 11, 12, 14], [0, 1, 2, 3, 4, 5, 6, 7, 8, 9, 10, 11, 12], [0, 1, 2, 3, 4, 5, 6, 7, 8, 9, 10, 11, 12, 16], [0, 1, 2, 3, 4, 5, 6, 7, 8, 9, 10, 11, 12], [0, 1, 2, 3, 4, 5, 6, 7, 8, 9, 10, 11, 12, 18], [0, 1, 2, 3, 4, 5, 6, 7, 8, 9, 10, 11, 12, 18, 19], [0, 1, 2, 3, 4, 5, 6, 7, 8, 9, 10, 11, 12, 13, 14, 15, 16, 17, 18, 19, 20], [0, 1, 2, 3, 4, 5, 6, 7, 8, 9, 10, 11, 12, 13, 14, 15, 16, 17, 18, 19, 20, 21], [0, 1, 2, 3, 4, 5, 6, 7, 8, 9, 10, 11, 12, 13, 14, 15, 16, 17, 18, 19, 20, 21, 22], [0, 1, 2, 3, 4, 5, 6, 7, 8, 9, 10, 11, 12, 13, 14, 15, 16, 17, 18, 19, 20, 21, 22, 23], [0, 1, 2, 3, 4, 5, 6, 7, 8, 9, 10, 11, 12, 13, 14, 15, 16, 17, 18, 19, 20, 21, 22, 23, 24], [0, 1, 2, 3, 4, 5, 6, 7, 8, 9, 10, 11, 12, 13, 14, 15, 16, 17, 18, 19, 20, 21, 22, 23, 24, 25], [0, 1, 2, 3, 4, 5, 6, 7, 8, 9, 10, 11, 12, 13, 14, 15, 16, 17, 18, 19, 20, 21, 22, 23, 24, 25, 26], [0, 1, 2, 3, 4, 5, 6, 7, 8, 9, 10, 11, 12, 13, 14, 15, 16, 17, 18, 19, 20, 21, 22, 23, 24, 25, 26, 27], [0, 1, 2, 3, 4, 5, 6, 7, 8, 9, 10, 11, 12, 13, 14, 15, 16, 17, 18, 19, 20, 21, 22, 23, 24, 25, 26, 27, 28], [0, 1, 2, 3, 4, 5, 6, 7, 8, 9, 10, 11, 12, 13, 14, 15, 16, 17, 18, 19, 20, 21, 22, 23, 24, 25, 26, 27, 28, 29], [0, 1, 2, 3, 4, 5, 6, 7, 8, 9, 10, 11, 12, 13, 14, 15, 16, 17, 18, 19, 20, 21, 22, 23, 24, 25, 26, 27, 28, 29, 30], [0, 1, 2, 3, 4, 5, 6, 7, 8, 9, 10, 11, 12, 13, 14, 15, 16, 17, 18, 19, 20, 21, 22, 23, 24, 25, 26, 27, 28, 29, 30, 31], [0, 1, 2, 3, 4, 5, 6, 7, 8, 9, 10, 11, 12, 13, 14, 15, 16, 17, 18, 19, 20, 21, 22, 23, 24, 25, 26, 27, 28, 29, 30, 31, 32], [0, 1, 2, 3, 4, 5, 6, 7, 8, 9, 10, 11, 12, 13, 14, 15, 16, 17, 18, 19, 20, 21, 22, 23, 24, 25, 26, 27, 28, 29, 30, 31, 32, 33]] [[], [7], [7, 8], [7, 8, 9], [7, 8, 9, 10], [7, 8, 9, 10, 11], [7, 8, 9, 10, 11, 12], [7, 8, 9, 10, 11], [7, 8, 9, 10, 11, 14], [7, 8, 9, 10, 11, 12, 13, 14, 15], [7, 8, 9, 10, 11, 12, 13, 14, 15, 16], [7, 8, 9, 10, 11, 12, 13, 14, 15, 16, 17], [7, 8, 9, 10, 11, 12, 13, 14, 15, 16, 17, 18], [7, 8, 9, 10, 11, 12, 13, 14, 15, 16, 17, 18, 19], [7, 8, 9, 10, 11, 12, 13, 14, 15, 16, 17, 18, 19], [7, 8, 9, 10, 11, 12, 13, 14, 15, 16, 17, 18, 19, 21], [7, 8, 9, 10, 11, 12, 13, 14, 15, 16, 17, 18, 19], [7, 8, 9, 10, 11, 12, 13, 14, 15, 16, 17, 18, 19, 23], [7, 8, 9, 10, 11, 12, 13, 14, 15, 16, 17, 18, 19], [7, 8, 9, 10, 11, 12, 13, 14, 15, 16, 17, 18, 19, 25], [7, 8, 9, 10, 11, 12, 13, 14, 15, 16, 17, 18, 19, 25, 26], [7, 8, 9, 10, 11, 12, 13, 14, 15, 16, 17, 18, 19, 20, 21, 22, 23, 24, 25, 26, 27], [7, 8, 9, 10, 11, 12, 13, 14, 15, 16, 17, 18, 19, 20, 21, 22, 23, 24, 25, 26, 27, 28], [7, 8, 9, 10, 11, 12, 13, 14, 15, 16, 17, 18, 19, 20, 21, 22, 23, 24, 25, 26, 27, 28, 29], [7, 8, 9, 10, 11, 12, 13, 14, 15, 16, 17, 18, 19, 20, 21, 22, 23, 24, 25, 26, 27, 28, 29, 30], [7, 8, 9, 10, 11, 12, 13, 14, 15, 16, 17, 18, 19, 20, 21, 22, 23, 24, 25, 26, 27, 28, 29, 30, 31], [7, 8, 9, 10, 11, 12, 13, 14, 15, 16, 17, 18, 19, 20, 21, 22, 23, 24, 25, 26, 27, 28, 29, 30, 31, 32], [7, 8, 9, 10, 11, 12, 13, 14, 15, 16, 17, 18, 19, 20, 21, 22, 23, 24, 25, 26, 27, 28, 29, 30, 31, 32, 33], [7, 8, 9, 10, 11, 12, 13, 14, 15, 16, 17, 18, 19, 20, 21, 22, 23, 24, 25, 26, 27, 28, 29, 30, 31, 32, 33, 34], [7, 8, 9, 10, 11, 12, 13, 14, 15, 16, 17, 18, 19, 20, 21, 22, 23, 24, 25, 26, 27, 28, 29, 30, 31, 32, 33, 34, 35], [7, 8, 9, 10, 11, 12, 13, 14, 15, 16, 17, 18, 19, 20, 21, 22, 23, 24, 25, 26, 27, 28, 29, 30, 31, 32, 33, 34, 35, 36], [7, 8, 9, 10, 11, 12, 13, 14, 15, 16, 17, 18, 19, 20, 21, 22, 23, 24, 25, 26, 27, 28, 29, 30, 31, 32, 33, 34, 35, 36, 37], [7, 8, 9, 10, 11, 12, 13, 14, 15, 16, 17, 18, 19, 20, 21, 22, 23, 24, 25, 26, 27, 28, 29, 30, 31, 32, 33, 34, 35, 36, 37, 38], [7, 8, 9, 10, 11, 12, 13, 14, 15, 16, 17, 18, 19, 20, 21, 22, 23, 24, 25, 26, 27, 28, 29, 30, 31, 32, 33, 34, 35, 36, 37, 38, 39], [7, 8, 9, 10, 11, 12, 13, 14, 15, 16, 17, 18, 19, 20, 21, 22, 23, 24, 25, 26, 27, 28, 29, 30, 31, 32, 33, 34, 35, 36, 37, 38, 39, 40]] [[], [], [], [], [], [14, 15], [14, 15], [12, 13], [12, 13], [], [], [], [], [21, 22, 23, 24, 25, 26, 27], [20, 23, 24, 25, 26, 27], [20, 23, 24, 25, 26, 27], [20, 21, 22, 25, 26, 27], [20, 21, 22, 25, 26, 27], [20, 21, 22, 23, 24], [20, 21, 22, 23, 24], [20, 21, 22, 23, 24], [], [], [], [], [], [], [], [], [], [], [], [], [], []] rfl ?_
    refine DR.step (q_fldp rfl rfl rfl rfl (by decide)) rfl rfl ?_; refine DR.step (q_ld1 rfl rfl rfl rfl rfl) rfl rfl ?_; refine DR.step (q_call0 rfl rfl (h1) rfl) rfl rfl ?_
    refine DR.step (q_not rfl rfl rfl) rfl rfl ?_; refine DR.step (q_moveC rfl rfl rfl) rfl rfl ?_; refine DR.step (Qt.no rfl rfl rfl rfl) rfl rfl ?_
    refine DR.step (Qt.no rfl rfl rfl rfl) rfl rfl ?_; refine DR.step (Qt.no rfl rfl rfl rfl) rfl rfl ?_; refine DR.step (Qt.no rfl rfl rfl rfl) rfl rfl ?_
    refine DR.step (Qt.no rfl rfl rfl rfl) rfl rfl ?_; refine DR.step (Qt.no rfl rfl rfl rfl) rfl rfl ?_; refine DR.step (q_pickT rfl rfl rfl rfl) rfl rfl ?_
    refine DR.step (q_moveC rfl rfl rfl) rfl rfl ?_; refine DR.step (Qt.no rfl rfl rfl rfl) rfl rfl ?_; refine DR.step (Qt.no rfl rfl rfl rfl) rfl rfl ?_
    refine DR.step (Qt.no rfl rfl rfl rfl) rfl rfl ?_; refine DR.step (Qt.no rfl rfl rfl rfl) rfl rfl ?_; refine DR.step (Qt.no rfl rfl rfl rfl) rfl rfl ?_
    refine DR.step (Qt.no rfl rfl rfl rfl) rfl rfl ?_; refine DR.step (Qt.no rfl rfl rfl rfl) rfl rfl ?_; refine DR.step (Qt.no rfl rfl rfl rfl) rfl rfl ?_
    refine DR.step (Qt.no rfl rfl rfl rfl) rfl rfl ?_; refine DR.step (q_pickT rfl rfl rfl rfl) rfl rfl ?_; refine DR.step (q_moveC rfl rfl rfl) rfl rfl ?_
    refine DR.step (Qt.no rfl rfl rfl rfl) rfl rfl ?_; refine DR.step (Qt.no rfl rfl rfl rfl) rfl rfl ?_; refine DR.step (Qt.no rfl rfl rfl rfl) rfl rfl ?_
    refine DR.step (Qt.no rfl rfl rfl rfl) rfl rfl ?_; refine DR.step (q_pickT rfl rfl rfl rfl) rfl rfl ?_; refine DR.step (q_moveC rfl rfl rfl) rfl rfl ?_
    refine DR.step (Qt.no rfl rfl rfl rfl) rfl rfl ?_; refine DR.step (Qt.no rfl rfl rfl rfl) rfl rfl ?_; refine DR.step (Qt.no rfl rfl rfl rfl) rfl rfl ?_
    refine DR.step (Qt.no rfl rfl rfl rfl) rfl rfl ?_; refine DR.step (q_pickT rfl rfl rfl rfl) rfl rfl ?_; refine DR.stop (by kernel_rfl) (by kernel_rfl) ?_
    refine L_nil ?_; refine T_n ?_; refine A_ifT rfl ?_; refine A_seq ?_; refine A_region ?_; refine M0 (q_assignC rfl rfl rfl) rfl rfl ?_; refine L_nil ?_; refine T_n ?_; refine A_ret ?_; refine T_r ?_
    refine F_r ?_
    exact E_tmp rfl rfl (W_end [] (by decide) rfl rfl rfl)
  | true =>
    rw [e1] at h1
    cases e2 : inR b.Owner 0 (n - 1) with
    | false =>
      rw [e2] at h2
      rw [show bodyM l n b = false by rw [bodyM, e1, e2]; rfl]
      refine Con.of Try.func117 rfl Try.ntmps117 rfl (fun E => ?_)
      refine A_seq ?_; refine A_region ?_; refine M1 (q_boxN rfl rfl rfl rfl) rfl rfl ?_; refine M1 (q_boxN rfl rfl rfl rfl) rfl rfl ?_; refine M0 (q_assignC rfl rfl rfl) rfl rfl ?_
      refine L_nil ?_; refine T_n ?_; refine A_seq ?_; refine A_seq ?_
      refine A_draw [[], [0], [0, 1], [0, 1, 2], [0, 1, 2, 3], [0, 1, 2, 3, 4], [0, 1, 2, 3, 4, 5], [0, 1, 2, 3, 4], [0, 1, 2, 3, 4, 7], [0, 1, 2, 3, 4, 5, 6, 7, 8], [0, 1, 2, 3, 4, 5, 6, 7, 8, 9], [0, 1, 2, 3, 4, 5, 6, 7, 8, 9, 10], [0, 1, 2, 3, 4, 5, 6, 7, 8, 9, 10, 11], [0, 1, 2, 3, 4, 5, 6, 7, 8, 9, 10, 11, 12], [0, 1, 2, 3, 4, 5, 6, 7, 8, 9, 10, 11, 12], [0, 1, 2, 3, 4, 5, 6, 7, 8, 9, 10, 11, 12, 14], [0, 1, 2, 3, 4, 5, 6, 7, 8, 9, 10, 11, 12], [0, 1, 2, 3, 4, 5, 6, 7, 8, 9, 10, 11, 12, 16], [0, 1, 2, 3, 4, 5, 6, 7, 8, 9, 10, 11, 12], [0, 1, 2, 3, 4, 5, 6, 7, 8, 9, 10, 11, 12, 18], [0, 1, 2, 3, 4, 5, 6, 7, 8, 9, 10, 11, 12, 18, 19], [0, 1, 2, 3, 4, 5, 6, 7, 8, 9, 10, 11, 12, 13, 14, 15, 16, 17, 18, 19, 20], [0, 1, 2, 3, 4, 5, 6, 7, 8, 9, 10, 11, 12, 13, 14, 15, 16, 17, 18, 19, 20, 21], [0, 1, 2, 3, 4, 5, 6, 7, 8, 9, 10, 11, 12, 13, 14, 15, 16, 17, 18, 19, 20, 21, 22], [0, 1, 2, 3, 4, 5, 6, 7, 8, 9, 10, 11, 12, 13, 14, 15, 16, 17, 18, 19, 20, 21, 22, 23], [0, 1, 2, 3, 4, 5, 6, 7, 8, 9, 10, 11, 12, 13, 14, 15, 16, 17, 18, 19, 20, 21, 22, 23, 24], [0, 1, 2, 3, 4, 5, 6, 7, 8, 9, 10, 11, 12, 13, 14, 15, 16, 17, 18, 19, 20, 21, 22, 23, 24, 25], [0, 1, 2, 3, 4, 5, 6, 7, 8, 9, 10, 11, 12, 13, 14, 15, 16, 17, 18, 19, 20, 21, 22, 23, 24, 25, 26], [0, 1, 2, 3, 4, 5, 6, 7, 8, 9, 10, 11, 12, 13, 14, 15, 16, 17, 18, 19, 20, 21, 22, 23, 24, 25, 26, 27], [0, 1, 2, 3, 4, 5, 6, 7, 8, 9, 10, 11, 12, 13, 14, 15, 16, 17, 18, 19, 20, 21, 22, 23, 24, 25, 26, 27, 28], [0, 1, 2, 3, 4, 5, 6, 7, 8, 9, 10, 11, 12, 13, 14, 15, 16, 17, 18, 19, 20, 21, 22, 23, 24, 25, 26, 27, 28, 29], [0, 1, 2, 3, 4, 5, 6, 7, 8, 9, 10, 11, 12, 13, 14, 15, 16, 17, 18, 19, 20, 21, 22, 23, 24, 25, 26, 27, 28, 29, 30], [0, 1, 2, 3, 4, 5, 6, 7, 8, 9, 10, 11, 12, 13, 14, 15, 16, 17, 18, 19, 20, 21, 22, 23, 24, 25, 26, 27, 28, 29, 30, 31], [0, 1, 2, 3, 4, 5, 6, 7, 8, 9, 10, 11, 12, 13, 14, 15, 16, 17, 18, 19, 20, 21, 22, 23, 24, 25, 26, 27, 28, 29, 30, 31, 32], [0, 1, 2, 3, 4, 5, 6, 7, 8, 9, 10, 11, 12, 13, 14, 15, 16, 17, 18, 19, 20, 21, 22, 23, 24, 25, 26, 27, 28, 29, 30, 31, 32, 33]] [[], [7], [7, 8], [7, 8, 9], [7, 8, 9, 10], [7, 8, 9, 10, 11], [7, 8, 9, 10, 11, 12], [7, 8, 9, 10, 11], [7, 8, 9, 10, 11, 14], [7, 8, 9, 10, 11, 12, 13, 14, 15], [7, 8, 9, 10, 11, 12, 13, 14, 15, 16], [7, 8, 9, 10, 11, 12, 13, 14, 15, 16, 17], [7, 8, 9, 10, 11, 12, 13, 14, 15, 16, 17, 18], [7, 8, 9, 10, 11, 12, 13, 14, 15, 16, 17, 18, 19], [7, 8, 9, 10, 11, 12, 13, 14, 15, 16, 17, 18, 19], [7, 8, 9, 10, 11, 12, 13, 14, 15, 16, 17, 18, 19, 21], [7, 8, 9, 10, 11, 12, 13, 14, 15, 16, 17, 18, 19], [7, 8, 9, 10, 11, 12, 13, 14, 15, 16, 17, 18, 19, 23], [7, 8, 9, 10, 11, 12, 13, 14, 15, 16, 17, 18, 19], [7, 8, 9, 10, 11, 12, 13, 14, 15, 16, 17, 18, 19, 25], [7, 8, 9, 10, 11, 12, 13, 14, 15, 16, 17, 18, 19, 25, 26], [7, 8, 9, 10, 11, 12, 13, 14, 15, 16, 17, 18, 19, 20, 21, 22, 23, 24, 25, 26, 27], [7, 8, 9, 10, 11, 12, 13, 14, 15, 16, 17, 18, 19, 20, 21, 22, 23, 24, 25, 26, 27, 28], [7, 8, 9, 10, 11, 12, 13, 14, 15, 16, 17, 18, 19, 20, 21, 22, 23, 24, 25, 26, 27, 28, 29], [7, 8, 9, 10, 11, 12, 13, 14, 15, 16, 17, 18, 19, 20, 21, 22, 23, 24, 25, 26, 27, 28, 29, 30], [7, 8, 9, 10, 11, 12, 13, 14, 15, 16, 17, 18, 19, 20, 21, 22, 23, 24, 25, 26, 27, 28, 29, 30, 31], [7, 8, 9, 10, 11, 12, 13, 14, 15, 16, 17, 18, 19, 20, 21, 22, 23, 24, 25, 26, 27, 28, 29, 30, 31, 32], [7, 8, 9, 10, 11, 12, 13, 14, 15, 16, 17, 18, 19, 20, 21, 22, 23, 24, 25, 26, 27, 28, 29, 30, 31, 32, 33], [7, 8, 9, 10, 11, 12, 13, 14, 15, 16, 17, 18, 19, 20, 21, 22, 23, 24, 25, 26, 27, 28, 29, 30, 31, 32, 33, 34], [7, 8, 9, 10, 11, 12, 13, 14, 15, 16, 17, 18, 19, 20, 21, 22, 23, 24, 25, 26, 27, 28, 29, 30, 31, 32, 33, 34, 35], [7, 8, 9, 10, 11, 12, 13, 14, 15, 16, 17, 18, 19, 20, 21, 22, 23, 24, 25, 26, 27, 28, 29, 30, 31, 32, 33, 34, 35, 36], [7, 8, 9, 10, 11, 12, 13, 14, 15, 16, 17, 18, 19, 20, 21, 22, 23, 24, 25, 26, 27, 28, 29, 30, 31, 32, 33, 34, 35, 36, 37], [7, 8, 9, 10, 11, 12, 13, 14, 15, 16, 17, 18, 19, 20, 21, 22, 23, 24, 25, 26, 27, 28, 29, 30, 31, 32, 33, 34, 35, 36, 37, 38], [7, 8, 9, 10, 11, 12, 13, 14, 15, 16, 17, 18, 19, 20, 21, 22, 23, 24, 25, 26, 27, 28, 29, 30, 31, 32, 33, 34, 35, 36, 37, 38, 39], [7, 8, 9, 10, 11, 12, 13, 14, 15, 16, 17, 18, 19, 20, 21, 22, 23, 24, 25, 26, 27, 28, 29, 30, 31, 32, 33, 34, 35, 36, 37, 38, 39, 40]] [[], [], [], [], [], [14, 15], [14, 15], [12, 13], [12, 13], [], [], [], [], [21, 22, 23, 24, 25, 26, 27], [20, 23, 24, 25, 26, 27], [20, 23, 24, 25, 26, 27], [20, 21, 22, 25, 26, 27], [20, 21, 22, 25, 26, 27], [20, 21, 22, 23, 24], [20, 21, 22, 23, 24], [20, 21, 22, 23, 24], [], [], [], [], [], [], [], [], [], [], [], [], [], []] rfl ?_
      refine DR.step (q_fldp rfl rfl rfl rfl (by decide)) rfl rfl ?_; refine DR.step (q_ld1 rfl rfl rfl rfl rfl) rfl rfl ?_; refine DR.step (q_call0 rfl rfl (h1) rfl) rfl rfl ?_
      refine DR.step (q_not rfl rfl rfl) rfl rfl ?_; refine DR.step (q_moveC rfl rfl rfl) rfl rfl ?_; refine DR.step (Qt.yes rfl rfl rfl (q_fldp rfl rfl rfl rfl (by decide))) rfl rfl ?_
      refine DR.step (Qt.yes rfl rfl rfl (q_ld1 rfl rfl rfl rfl rfl)) rfl rfl ?_; refine DR.step (Qt.yes rfl rfl rfl (q_moveC rfl rfl rfl)) rfl rfl ?_
      refine DR.step (Qt.yes rfl rfl rfl (q_sub rfl rfl rfl rfl (by omega))) rfl rfl ?_; refine DR.step (Qt.yes rfl rfl rfl (q_call0 rfl rfl (h2) rfl)) rfl rfl ?_
      refine DR.step (Qt.yes rfl rfl rfl (q_not rfl rfl rfl)) rfl rfl ?_; refine DR.step (q_pickF rfl rfl rfl rfl) rfl rfl ?_; refine DR.step (q_moveC rfl rfl rfl) rfl rfl ?_
      refine DR.step (Qt.no rfl rfl rfl rfl) rfl rfl ?_; refine DR.step (Qt.no rfl rfl rfl rfl) rfl rfl ?_; refine DR.step (Qt.no rfl rfl rfl rfl) rfl rfl ?_
      refine DR.step (Qt.no rfl rfl rfl rfl) rfl rfl ?_; refine DR.step (Qt.no rfl rfl rfl rfl) rfl rfl ?_; refine DR.step (Qt.no rfl rfl rfl rfl) rfl rfl ?_
      refine DR.step (Qt.no rfl rfl rfl rfl) rfl rfl ?_; refine DR.step (Qt.no rfl rfl rfl rfl) rfl rfl ?_; refine DR.step (Qt.no rfl rfl rfl rfl) rfl rfl ?_
      refine DR.step (q_pickT rfl rfl rfl rfl) rfl rfl ?_; refine DR.step (q_moveC rfl rfl rfl) rfl rfl ?_; refine DR.step (Qt.no rfl rfl rfl rfl) rfl rfl ?_
      refine DR.step (Qt.no rfl rfl rfl rfl) rfl rfl ?_; refine DR.step (Qt.no rfl rfl rfl rfl) rfl rfl ?_; refine DR.step (Qt.no rfl rfl rfl rfl) rfl rfl ?_
      refine DR.step (q_pickT rfl rfl rfl rfl) rfl rfl ?_; refine DR.step (q_moveC rfl rfl rfl) rfl rfl ?_; refine DR.step (Qt.no rfl rfl rfl rfl) rfl rfl ?_
      refine DR.step (Qt.no rfl rfl rfl rfl) rfl rfl ?_; refine DR.step (Qt.no rfl rfl rfl rfl) rfl rfl ?_; refine DR.step (Qt.no rfl rfl rfl rfl) rfl rfl ?_
      refine DR.step (q_pickT rfl rfl rfl rfl) rfl rfl ?_; refine DR.stop (by kernel_rfl) (by kernel_rfl) ?_
      refine L_nil ?_; refine T_n ?_; refine A_ifT rfl ?_; refine A_seq ?_; refine A_region ?_; refine M0 (q_assignC rfl rfl rfl) rfl rfl ?_; refine L_nil ?_; refine T_n ?_; refine A_ret ?_; refine T_r ?_
      refine F_r ?_
      exact E_tmp rfl rfl (W_end [] (by decide) rfl rfl rfl)
    | true =>
      rw [e2] at h2
      have hs16 := size_in e1
      have h3 := S_l02Solid l b.X b.Y (sizeOf b.Kind) hl b3 b4 hs16.1 hs16.2
      cases e3 : solidM l b.X b.Y (sizeOf b.Kind) with
      | true =>
        rw [e3] at h3
        rw [show bodyM l n b = false by rw [bodyM, e1, e2, e3]; rfl]
        refine Con.of Try.func117 rfl Try.ntmps117 rfl (fun E => ?_)
        refine A_seq ?_; refine A_region ?_; refine M1 (q_boxN rfl rfl rfl rfl) rfl rfl ?_; refine M1 (q_boxN rfl rfl rfl rfl) rfl rfl ?_; refine M0 (q_assignC rfl rfl rfl) rfl rfl ?_
        refine L_nil ?_; refine T_n ?_; refine A_seq ?_; refine A_seq ?_
        refine A_draw [[], [0], [0, 1], [0, 1, 2], [0, 1, 2, 3], [0, 1, 2, 3, 4], [0, 1, 2, 3, 4, 5], [0, 1, 2, 3, 4], [0, 1, 2, 3, 4, 7], [0, 1, 2, 3, 4, 5, 6, 7, 8], [0, 1, 2, 3, 4, 5, 6, 7, 8, 9], [0, 1, 2, 3, 4, 5, 6, 7, 8, 9, 10], [0, 1, 2, 3, 4, 5, 6, 7, 8, 9, 10, 11], [0, 1, 2, 3, 4, 5, 6, 7, 8, 9, 10, 11, 12], [0, 1, 2, 3, 4, 5, 6, 7, 8, 9, 10, 11, 12], [0, 1, 2, 3, 4, 5, 6, 7, 8, 9, 10, 11, 12, 14], [0, 1, 2, 3, 4, 5, 6, 7, 8, 9, 10, 11, 12], [0, 1, 2, 3, 4, 5, 6, 7, 8, 9, 10, 11, 12, 16], [0, 1, 2, 3, 4, 5, 6, 7, 8, 9, 10, 11, 12], [0, 1, 2, 3, 4, 5, 6, 7, 8, 9, 10, 11, 12, 18], [0, 1, 2, 3, 4, 5, 6, 7, 8, 9, 10, 11, 12, 18, 19], [0, 1, 2, 3, 4, 5, 6, 7, 8, 9, 10, 11, 12, 13, 14, 15, 16, 17, 18, 19, 20], [0, 1, 2, 3, 4, 5, 6, 7, 8, 9, 10, 11, 12, 13, 14, 15, 16, 17, 18, 19, 20, 21], [0, 1, 2, 3, 4, 5, 6, 7, 8, 9, 10, 11, 12, 13, 14, 15, 16, 17, 18, 19, 20, 21, 22], [0, 1, 2, 3, 4, 5, 6, 7, 8, 9, 10, 11, 12, 13, 14, 15, 16, 17, 18, 19, 20, 21, 22, 23], [0, 1, 2, 3, 4, 5, 6, 7, 8, 9, 10, 11, 12, 13, 14, 15, 16, 17, 18, 19, 20, 21, 22, 23, 24], [0, 1, 2, 3, 4, 5, 6, 7, 8, 9, 10, 11, 12, 13, 14, 15, 16, 17, 18, 19, 20, 21, 22, 23, 24, 25], [0, 1, 2, 3, 4, 5, 6, 7, 8, 9, 10, 11, 12, 13, 14, 15, 16, 17, 18, 19, 20, 21, 22, 23, 24, 25, 26], [0, 1, 2, 3, 4, 5, 6, 7, 8, 9, 10, 11, 12, 13, 14, 15, 16, 17, 18, 19, 20, 21, 22, 23, 24, 25, 26, 27], [0, 1, 2, 3, 4, 5, 6, 7, 8, 9, 10, 11, 12, 13, 14, 15, 16, 17, 18, 19, 20, 21, 22, 23, 24, 25, 26, 27, 28], [0, 1, 2, 3, 4, 5, 6, 7, 8, 9, 10, 11, 12, 13, 14, 15, 16, 17, 18, 19, 20, 21, 22, 23, 24, 25, 26, 27, 28, 29], [0, 1, 2, 3, 4, 5, 6, 7, 8, 9, 10, 11, 12, 13, 14, 15, 16, 17, 18, 19, 20, 21, 22, 23, 24, 25, 26, 27, 28, 29, 30], [0, 1, 2, 3, 4, 5, 6, 7, 8, 9, 10, 11, 12, 13, 14, 15, 16, 17, 18, 19, 20, 21, 22, 23, 24, 25, 26, 27, 28, 29, 30, 31], [0, 1, 2, 3, 4, 5, 6, 7, 8, 9, 10, 11, 12, 13, 14, 15, 16, 17, 18, 19, 20, 21, 22, 23, 24, 25, 26, 27, 28, 29, 30, 31, 32], [0, 1, 2, 3, 4, 5, 6, 7, 8, 9, 10, 11, 12, 13, 14, 15, 16, 17, 18, 19, 20, 21, 22, 23, 24, 25, 26, 27, 28, 29, 30, 31, 32, 33]] [[], [7], [7, 8], [7, 8, 9], [7, 8, 9, 10], [7, 8, 9, 10, 11], [7, 8, 9, 10, 11, 12], [7, 8, 9, 10, 11], [7, 8, 9, 10, 11, 14], [7, 8, 9, 10, 11, 12, 13, 14, 15], [7, 8, 9, 10, 11, 12, 13, 14, 15, 16], [7, 8, 9, 10, 11, 12, 13, 14, 15, 16, 17], [7, 8, 9, 10, 11, 12, 13, 14, 15, 16, 17, 18], [7, 8, 9, 10, 11, 12, 13, 14, 15, 16, 17, 18, 19], [7, 8, 9, 10, 11, 12, 13, 14, 15, 16, 17, 18, 19], [7, 8, 9, 10, 11, 12, 13, 14, 15, 16, 17, 18, 19, 21], [7, 8, 9, 10, 11, 12, 13, 14, 15, 16, 17, 18, 19], [7, 8, 9, 10, 11, 12, 13, 14, 15, 16, 17, 18, 19, 23], [7, 8, 9, 10, 11, 12, 13, 14, 15, 16, 17, 18, 19], [7, 8, 9, 10, 11, 12, 13, 14, 15, 16, 17, 18, 19, 25], [7, 8, 9, 10, 11, 12, 13, 14, 15, 16, 17, 18, 19, 25, 26], [7, 8, 9, 10, 11, 12, 13, 14, 15, 16, 17, 18, 19, 20, 21, 22, 23, 24, 25, 26, 27], [7, 8, 9, 10, 11, 12, 13, 14, 15, 16, 17, 18, 19, 20, 21, 22, 23, 24, 25, 26, 27, 28], [7, 8, 9, 10, 11, 12, 13, 14, 15, 16, 17, 18, 19, 20, 21, 22, 23, 24, 25, 26, 27, 28, 29], [7, 8, 9, 10, 11, 12, 13, 14, 15, 16, 17, 18, 19, 20, 21, 22, 23, 24, 25, 26, 27, 28, 29, 30], [7, 8, 9, 10, 11, 12, 13, 14, 15, 16, 17, 18, 19, 20, 21, 22, 23, 24, 25, 26, 27, 28, 29, 30, 31], [7, 8, 9, 10, 11, 12, 13, 14, 15, 16, 17, 18, 19, 20, 21, 22, 23, 24, 25, 26, 27, 28, 29, 30, 31, 32], [7, 8, 9, 10, 11, 12, 13, 14, 15, 16, 17, 18, 19, 20, 21, 22, 23, 24, 25, 26, 27, 28, 29, 30, 31, 32, 33], [7, 8, 9, 10, 11, 12, 13, 14, 15, 16, 17, 18, 19, 20, 21, 22, 23, 24, 25, 26, 27, 28, 29, 30, 31, 32, 33, 34], [7, 8, 9, 10, 11, 12, 13, 14, 15, 16, 17, 18, 19, 20, 21, 22, 23, 24, 25, 26, 27, 28, 29, 30, 31, 32, 33, 34, 35], [7, 8, 9, 10, 11, 12, 13, 14, 15, 16, 17, 18, 19, 20, 21, 22, 23, 24, 25, 26, 27, 28, 29, 30, 31, 32, 33, 34, 35, 36], [7, 8, 9, 10, 11, 12, 13, 14, 15, 16, 17, 18, 19, 20, 21, 22, 23, 24, 25, 26, 27, 28, 29, 30, 31, 32, 33, 34, 35, 36, 37], [7, 8, 9, 10, 11, 12, 13, 14, 15, 16, 17, 18, 19, 20, 21, 22, 23, 24, 25, 26, 27, 28, 29, 30, 31, 32, 33, 34, 35, 36, 37, 38], [7, 8, 9, 10, 11, 12, 13, 14, 15, 16, 17, 18, 19, 20, 21, 22, 23, 24, 25, 26, 27, 28, 29, 30, 31, 32, 33, 34, 35, 36, 37, 38, 39], [7, 8, 9, 10, 11, 12, 13, 14, 15, 16, 17, 18, 19, 20, 21, 22, 23, 24, 25, 26, 27, 28, 29, 30, 31, 32, 33, 34, 35, 36, 37, 38, 39, 40]] [[], [], [], [], [], [14, 15], [14, 15], [12, 13], [12, 13], [], [], [], [], [21, 22, 23, 24, 25, 26, 27], [20, 23, 24, 25, 26, 27], [20, 23, 24, 25, 26, 27], [20, 21, 22, 25, 26, 27], [20, 21, 22, 25, 26, 27], [20, 21, 22, 23, 24], [20, 21, 22, 23, 24], [20, 21, 22, 23, 24], [], [], [], [], [], [], [], [], [], [], [], [], [], []] rfl ?_
        refine DR.step (q_fldp rfl rfl rfl rfl (by decide)) rfl rfl ?_; refine DR.step (q_ld1 rfl rfl rfl rfl rfl) rfl rfl ?_; refine DR.step (q_call0 rfl rfl (h1) rfl) rfl rfl ?_
        refine DR.step (q_not rfl rfl rfl) rfl rfl ?_; refine DR.step (q_moveC rfl rfl rfl) rfl rfl ?_; refine DR.step (Qt.yes rfl rfl rfl (q_fldp rfl rfl rfl rfl (by decide))) rfl rfl ?_
        refine DR.step (Qt.yes rfl rfl rfl (q_ld1 rfl rfl rfl rfl rfl)) rfl rfl ?_; refine DR.step (Qt.yes rfl rfl rfl (q_moveC rfl rfl rfl)) rfl rfl ?_
        refine DR.step (Qt.yes rfl rfl rfl (q_sub rfl rfl rfl rfl (by omega))) rfl rfl ?_; refine DR.step (Qt.yes rfl rfl rfl (q_call0 rfl rfl (h2) rfl)) rfl rfl ?_
        refine DR.step (Qt.yes rfl rfl rfl (q_not rfl rfl rfl)) rfl rfl ?_; refine DR.step (q_pickF rfl rfl rfl rfl) rfl rfl ?_; refine DR.step (q_moveC rfl rfl rfl) rfl rfl ?_
        refine DR.step (Qt.yes rfl rfl rfl (q_ldN rfl rfl rfl rfl rfl rfl)) rfl rfl ?_; refine DR.step (Qt.yes rfl rfl rfl (q_fldp rfl rfl rfl rfl (by decide))) rfl rfl ?_
        refine DR.step (Qt.yes rfl rfl rfl (q_ld1 rfl rfl rfl rfl rfl)) rfl rfl ?_; refine DR.step (Qt.yes rfl rfl rfl (q_fldp rfl rfl rfl rfl (by decide))) rfl rfl ?_
        refine DR.step (Qt.yes rfl rfl rfl (q_ld1 rfl rfl rfl rfl rfl)) rfl rfl ?_; refine DR.step (Qt.yes rfl rfl rfl (q_fldp rfl rfl rfl rfl (by decide))) rfl rfl ?_
        refine DR.step (Qt.yes rfl rfl rfl (q_ld1 rfl rfl rfl rfl rfl)) rfl rfl ?_; refine DR.step (Qt.yes rfl rfl rfl (q_call0 rfl rfl (hsz) rfl)) rfl rfl ?_
        refine DR.step (Qt.yes rfl rfl rfl (q_call0 rfl rfl (h3) rfl)) rfl rfl ?_; refine DR.step (q_pickF rfl rfl rfl rfl) rfl rfl ?_; refine DR.step (q_moveC rfl rfl rfl) rfl rfl ?_
        refine DR.step (Qt.no rfl rfl rfl rfl) rfl rfl ?_; refine DR.step (Qt.no rfl rfl rfl rfl) rfl rfl ?_; refine DR.step (Qt.no rfl rfl rfl rfl) rfl rfl ?_
        refine DR.step (Qt.no rfl rfl rfl rfl) rfl rfl ?_; refine DR.step (q_pickT rfl rfl rfl rfl) rfl rfl ?_; refine DR.step (q_moveC rfl rfl rfl) rfl rfl ?_
        refine DR.step (Qt.no rfl rfl rfl rfl) rfl rfl ?_; refine DR.step (Qt.no rfl rfl rfl rfl) rfl rfl ?_; refine DR.step (Qt.no rfl rfl rfl rfl) rfl rfl ?_
        refine DR.step (Qt.no rfl rfl rfl rfl) rfl rfl ?_; refine DR.step (q_pickT rfl rfl rfl rfl) rfl rfl ?_; refine DR.stop (by kernel_rfl) (by kernel_rfl) ?_
        refine L_nil ?_; refine T_n ?_; refine A_ifT rfl ?_; refine A_seq ?_; refine A_region ?_; refine M0 (q_assignC rfl rfl rfl) rfl rfl ?_; refine L_nil ?_; refine T_n ?_; refine A_ret ?_; refine T_r ?_
        refine F_r ?_
        exact E_tmp rfl rfl (W_end [] (by decide) rfl rfl rfl)
      | false =>
        rw [e3] at h3
        cases e4 : inR b.VX (-15) 15 with
        | false =>
          rw [e4] at h4
          rw [show bodyM l n b = false by rw [bodyM, e1, e2, e3, e4]; rfl]
          refine Con.of Try.func117 rfl Try.ntmps117 rfl (fun E => ?_)
          refine A_seq ?_; refine A_region ?_; refine M1 (q_boxN rfl rfl rfl rfl) rfl rfl ?_; refine M1 (q_boxN rfl rfl rfl rfl) rfl rfl ?_; refine M0 (q_assignC rfl rfl rfl) rfl rfl ?_
          refine L_nil ?_; refine T_n ?_; refine A_seq ?_; refine A_seq ?_
          refine A_draw [[], [0], [0, 1], [0, 1, 2], [0, 1, 2, 3], [0, 1, 2, 3, 4], [0, 1, 2, 3, 4, 5], [0, 1, 2, 3, 4], [0, 1, 2, 3, 4, 7], [0, 1, 2, 3, 4, 5, 6, 7, 8], [0, 1, 2, 3, 4, 5, 6, 7, 8, 9], [0, 1, 2, 3, 4, 5, 6, 7, 8, 9, 10], [0, 1, 2, 3, 4, 5, 6, 7, 8, 9, 10, 11], [0, 1, 2, 3, 4, 5, 6, 7, 8, 9, 10, 11, 12], [0, 1, 2, 3, 4, 5, 6, 7, 8, 9, 10, 11, 12], [0, 1, 2, 3, 4, 5, 6, 7, 8, 9, 10, 11, 12, 14], [0, 1, 2, 3, 4, 5, 6, 7, 8, 9, 10, 11, 12], [0, 1, 2, 3, 4, 5, 6, 7, 8, 9, 10, 11, 12, 16], [0, 1, 2, 3, 4, 5, 6, 7, 8, 9, 10, 11, 12], [0, 1, 2, 3, 4, 5, 6, 7, 8, 9, 10, 11, 12, 18], [0, 1, 2, 3, 4, 5, 6, 7, 8, 9, 10, 11, 12, 18, 19], [0, 1, 2, 3, 4, 5, 6, 7, 8, 9, 10, 11, 12, 13, 14, 15, 16, 17, 18, 19, 20], [0, 1, 2, 3, 4, 5, 6, 7, 8, 9, 10, 11, 12, 13, 14, 15, 16, 17, 18, 19, 20, 21], [0, 1, 2, 3, 4, 5, 6, 7, 8, 9, 10, 11, 12, 13, 14, 15, 16, 17, 18, 19, 20, 21, 22], [0, 1, 2, 3, 4, 5, 6, 7, 8, 9, 10, 11, 12, 13, 14, 15, 16, 17, 18, 19, 20, 21, 22, 23], [0, 1, 2, 3, 4, 5, 6, 7, 8, 9, 10, 11, 12, 13, 14, 15, 16, 17, 18, 19, 20, 21, 22, 23, 24], [0, 1, 2, 3, 4, 5, 6, 7, 8, 9, 10, 11, 12, 13, 14, 15, 16, 17, 18, 19, 20, 21, 22, 23, 24, 25], [0, 1, 2, 3, 4, 5, 6, 7, 8, 9, 10, 11, 12, 13, 14, 15, 16, 17, 18, 19, 20, 21, 22, 23, 24, 25, 26], [0, 1, 2, 3, 4, 5, 6, 7, 8, 9, 10, 11, 12, 13, 14, 15, 16, 17, 18, 19, 20, 21, 22, 23, 24, 25, 26, 27], [0, 1, 2, 3, 4, 5, 6, 7, 8, 9, 10, 11, 12, 13, 14, 15, 16, 17, 18, 19, 20, 21, 22, 23, 24, 25, 26, 27, 28], [0, 1, 2, 3, 4, 5, 6, 7, 8, 9, 10, 11, 12, 13, 14, 15, 16, 17, 18, 19, 20, 21, 22, 23, 24, 25, 26, 27, 28, 29], [0, 1, 2, 3, 4, 5, 6, 7, 8, 9, 10, 11, 12, 13, 14, 15, 16, 17, 18, 19, 20, 21, 22, 23, 24, 25, 26, 27, 28, 29, 30], [0, 1, 2, 3, 4, 5, 6, 7, 8, 9, 10, 11, 12, 13, 14, 15, 16, 17, 18, 19, 20, 21, 22, 23, 24, 25, 26, 27, 28, 29, 30, 31], [0, 1, 2, 3, 4, 5, 6, 7, 8, 9, 10, 11, 12, 13, 14, 15, 16, 17, 18, 19, 20, 21, 22, 23, 24, 25, 26, 27, 28, 29, 30, 31, 32], [0, 1, 2, 3, 4, 5, 6, 7, 8, 9, 10, 11, 12, 13, 14, 15, 16, 17, 18, 19, 20, 21, 22, 23, 24, 25, 26, 27, 28, 29, 30, 31, 32, 33]] [[], [7], [7, 8], [7, 8, 9], [7, 8, 9, 10], [7, 8, 9, 10, 11], [7, 8, 9, 10, 11, 12], [7, 8, 9, 10, 11], [7, 8, 9, 10, 11, 14], [7, 8, 9, 10, 11, 12, 13, 14, 15], [7, 8, 9, 10, 11, 12, 13, 14, 15, 16], [7, 8, 9, 10, 11, 12, 13, 14, 15, 16, 17], [7, 8, 9, 10, 11, 12, 13, 14, 15, 16, 17, 18], [7, 8, 9, 10, 11, 12, 13, 14, 15, 16, 17, 18, 19], [7, 8, 9, 10, 11, 12, 13, 14, 15, 16, 17, 18, 19], [7, 8, 9, 10, 11, 12, 13, 14, 15, 16, 17, 18, 19, 21], [7, 8, 9, 10, 11, 12, 13, 14, 15, 16, 17, 18, 19], [7, 8, 9, 10, 11, 12, 13, 14, 15, 16, 17, 18, 19, 23], [7, 8, 9, 10, 11, 12, 13, 14, 15, 16, 17, 18, 19], [7, 8, 9, 10, 11, 12, 13, 14, 15, 16, 17, 18, 19, 25], [7, 8, 9, 10, 11, 12, 13, 14, 15, 16, 17, 18, 19, 25, 26], [7, 8, 9, 10, 11, 12, 13, 14, 15, 16, 17, 18, 19, 20, 21, 22, 23, 24, 25, 26, 27], [7, 8, 9, 10, 11, 12, 13, 14, 15, 16, 17, 18, 19, 20, 21, 22, 23, 24, 25, 26, 27, 28], [7, 8, 9, 10, 11, 12, 13, 14, 15, 16, 17, 18, 19, 20, 21, 22, 23, 24, 25, 26, 27, 28, 29], [7, 8, 9, 10, 11, 12, 13, 14, 15, 16, 17, 18, 19, 20, 21, 22, 23, 24, 25, 26, 27, 28, 29, 30], [7, 8, 9, 10, 11, 12, 13, 14, 15, 16, 17, 18, 19, 20, 21, 22, 23, 24, 25, 26, 27, 28, 29, 30, 31], [7, 8, 9, 10, 11, 12, 13, 14, 15, 16, 17, 18, 19, 20, 21, 22, 23, 24, 25, 26, 27, 28, 29, 30, 31, 32], [7, 8, 9, 10, 11, 12, 13, 14, 15, 16, 17, 18, 19, 20, 21, 22, 23, 24, 25, 26, 27, 28, 29, 30, 31, 32, 33], [7, 8, 9, 10, 11, 12, 13, 14, 15, 16, 17, 18, 19, 20, 21, 22, 23, 24, 25, 26, 27, 28, 29, 30, 31, 32, 33, 34], [7, 8, 9, 10, 11, 12, 13, 14, 15, 16, 17, 18, 19, 20, 21, 22, 23, 24, 25, 26, 27, 28, 29, 30, 31, 32, 33, 34, 35], [7, 8, 9, 10, 11, 12, 13, 14, 15, 16, 17, 18, 19, 20, 21, 22, 23, 24, 25, 26, 27, 28, 29, 30, 31, 32, 33, 34, 35, 36], [7, 8, 9, 10, 11, 12, 13, 14, 15, 16, 17, 18, 19, 20, 21, 22, 23, 24, 25, 26, 27, 28, 29, 30, 31, 32, 33, 34, 35, 36, 37], [7, 8, 9, 10, 11, 12, 13, 14, 15, 16, 17, 18, 19, 20, 21, 22, 23, 24, 25, 26, 27, 28, 29, 30, 31, 32, 33, 34, 35, 36, 37, 38], [7, 8, 9, 10, 11, 12, 13, 14, 15, 16, 17, 18, 19, 20, 21, 22, 23, 24, 25, 26, 27, 28, 29, 30, 31, 32, 33, 34, 35, 36, 37, 38, 39], [7, 8, 9, 10, 11, 12, 13, 14, 15, 16, 17, 18, 19, 20, 21, 22, 23, 24, 25, 26, 27, 28, 29, 30, 31, 32, 33, 34, 35, 36, 37, 38, 39, 40]] [[], [], [], [], [], [14, 15], [14, 15], [12, 13], [12, 13], [], [], [], [], [21, 22, 23, 24, 25, 26, 27], [20, 23, 24, 25, 26, 27], [20, 23, 24, 25, 26, 27], [20, 21, 22, 25, 26, 27], [20, 21, 22, 25, 26, 27], [20, 21, 22, 23, 24], [20, 21, 22, 23, 24], [20, 21, 22, 23, 24], [], [], [], [], [], [], [], [], [], [], [], [], [], []] rfl ?_
          refine DR.step (q_fldp rfl rfl rfl rfl (by decide)) rfl rfl ?_; refine DR.step (q_ld1 rfl rfl rfl rfl rfl) rfl rfl ?_; refine DR.step (q_call0 rfl rfl (h1) rfl) rfl rfl ?_
          refine DR.step (q_not rfl rfl rfl) rfl rfl ?_; refine DR.step (q_moveC rfl rfl rfl) rfl rfl ?_; refine DR.step (Qt.yes rfl rfl rfl (q_fldp rfl rfl rfl rfl (by decide))) rfl rfl ?_
          refine DR.step (Qt.yes rfl rfl rfl (q_ld1 rfl rfl rfl rfl rfl)) rfl rfl ?_; refine DR.step (Qt.yes rfl rfl rfl (q_moveC rfl rfl rfl)) rfl rfl ?_
          refine DR.step (Qt.yes rfl rfl rfl (q_sub rfl rfl rfl rfl (by omega))) rfl rfl ?_; refine DR.step (Qt.yes rfl rfl rfl (q_call0 rfl rfl (h2) rfl)) rfl rfl ?_
          refine DR.step (Qt.yes rfl rfl rfl (q_not rfl rfl rfl)) rfl rfl ?_; refine DR.step (q_pickF rfl rfl rfl rfl) rfl rfl ?_; refine DR.step (q_moveC rfl rfl rfl) rfl rfl ?_
          refine DR.step (Qt.yes rfl rfl rfl (q_ldN rfl rfl rfl rfl rfl rfl)) rfl rfl ?_; refine DR.step (Qt.yes rfl rfl rfl (q_fldp rfl rfl rfl rfl (by decide))) rfl rfl ?_
          refine DR.step (Qt.yes rfl rfl rfl (q_ld1 rfl rfl rfl rfl rfl)) rfl rfl ?_; refine DR.step (Qt.yes rfl rfl rfl (q_fldp rfl rfl rfl rfl (by decide))) rfl rfl ?_
          refine DR.step (Qt.yes rfl rfl rfl (q_ld1 rfl rfl rfl rfl rfl)) rfl rfl ?_; refine DR.step (Qt.yes rfl rfl rfl (q_fldp rfl rfl rfl rfl (by decide))) rfl rfl ?_
          refine DR.step (Qt.yes rfl rfl rfl (q_ld1 rfl rfl rfl rfl rfl)) rfl rfl ?_; refine DR.step (Qt.yes rfl rfl rfl (q_call0 rfl rfl (hsz) rfl)) rfl rfl ?_
          refine DR.step (Qt.yes rfl rfl rfl (q_call0 rfl rfl (h3) rfl)) rfl rfl ?_; refine DR.step (q_pickF rfl rfl rfl rfl) rfl rfl ?_; refine DR.step (q_moveC rfl rfl rfl) rfl rfl ?_
          refine DR.step (Qt.yes rfl rfl rfl (q_fldp rfl rfl rfl rfl (by decide))) rfl rfl ?_; refine DR.step (Qt.yes rfl rfl rfl (q_ld1 rfl rfl rfl rfl rfl)) rfl rfl ?_
          refine DR.step (Qt.yes rfl rfl rfl (q_call0 rfl rfl (h4) rfl)) rfl rfl ?_; refine DR.step (Qt.yes rfl rfl rfl (q_not rfl rfl rfl)) rfl rfl ?_
          refine DR.step (q_pickF rfl rfl rfl rfl) rfl rfl ?_; refine DR.step (q_moveC rfl rfl rfl) rfl rfl ?_; refine DR.step (Qt.no rfl rfl rfl rfl) rfl rfl ?_
          refine DR.step (Qt.no rfl rfl rfl rfl) rfl rfl ?_; refine DR.step (Qt.no rfl rfl rfl rfl) rfl rfl ?_; refine DR.step (Qt.no rfl rfl rfl rfl) rfl rfl ?_
          refine DR.step (q_pickT rfl rfl rfl rfl) rfl rfl ?_; refine DR.stop (by kernel_rfl) (by kernel_rfl) ?_
          refine L_nil ?_; refine T_n ?_; refine A_ifT rfl ?_; refine A_seq ?_; refine A_region ?_; refine M0 (q_assignC rfl rfl rfl) rfl rfl ?_; refine L_nil ?_; refine T_n ?_; refine A_ret ?_; refine T_r ?_
          refine F_r ?_
          exact E_tmp rfl rfl (W_end [] (by decide) rfl rfl rfl)
        | true =>
          rw [e4] at h4
          cases e5 : inR b.VY (-15) 15 with
          | false =>
            rw [e5] at h5
            rw [show bodyM l n b = false by rw [bodyM, e1, e2, e3, e4, e5]; rfl]
            refine Con.of Try.func117 rfl Try.ntmps117 rfl (fun E => ?_)
            refine A_seq ?_; refine A_region ?_; refine M1 (q_boxN rfl rfl rfl rfl) rfl rfl ?_; refine M1 (q_boxN rfl rfl rfl rfl) rfl rfl ?_; refine M0 (q_assignC rfl rfl rfl) rfl rfl ?_
            refine L_nil ?_; refine T_n ?_; refine A_seq ?_; refine A_seq ?_
            refine A_draw [[], [0], [0, 1], [0, 1, 2], [0, 1, 2, 3], [0, 1, 2, 3, 4], [0, 1, 2, 3, 4, 5], [0, 1, 2, 3, 4], [0, 1, 2, 3, 4, 7], [0, 1, 2, 3, 4, 5, 6, 7, 8], [0, 1, 2, 3, 4, 5, 6, 7, 8, 9], [0, 1, 2, 3, 4, 5, 6, 7, 8, 9, 10], [0, 1, 2, 3, 4, 5, 6, 7, 8, 9, 10, 11], [0, 1, 2, 3, 4, 5, 6, 7, 8, 9, 10, 11, 12], [0, 1, 2, 3, 4, 5, 6, 7, 8, 9, 10, 11, 12], [0, 1, 2, 3, 4, 5, 6, 7, 8, 9, 10, 11, 12, 14], [0, 1, 2, 3, 4, 5, 6, 7, 8, 9, 10, 11, 12], [0, 1, 2, 3, 4, 5, 6, 7, 8, 9, 10, 11, 12, 16], [0, 1, 2, 3, 4, 5, 6, 7, 8, 9, 10, 11, 12], [0, 1, 2, 3, 4, 5, 6, 7, 8, 9, 10, 11, 12, 18], [0, 1, 2, 3, 4, 5, 6, 7, 8, 9, 10, 11, 12, 18, 19], [0, 1, 2, 3, 4, 5, 6, 7, 8, 9, 10, 11, 12, 13, 14, 15, 16, 17, 18, 19, 20], [0, 1, 2, 3, 4, 5, 6, 7, 8, 9, 10, 11, 12, 13, 14, 15, 16, 17, 18, 19, 20, 21], [0, 1, 2, 3, 4, 5, 6, 7, 8, 9, 10, 11, 12, 13, 14, 15, 16, 17, 18, 19, 20, 21, 22], [0, 1, 2, 3, 4, 5, 6, 7, 8, 9, 10, 11, 12, 13, 14, 15, 16, 17, 18, 19, 20, 21, 22, 23], [0, 1, 2, 3, 4, 5, 6, 7, 8, 9, 10, 11, 12, 13, 14, 15, 16, 17, 18, 19, 20, 21, 22, 23, 24], [0, 1, 2, 3, 4, 5, 6, 7, 8, 9, 10, 11, 12, 13, 14, 15, 16, 17, 18, 19, 20, 21, 22, 23, 24, 25], [0, 1, 2, 3, 4, 5, 6, 7, 8, 9, 10, 11, 12, 13, 14, 15, 16, 17, 18, 19, 20, 21, 22, 23, 24, 25, 26], [0, 1, 2, 3, 4, 5, 6, 7, 8, 9, 10, 11, 12, 13, 14, 15, 16, 17, 18, 19, 20, 21, 22, 23, 24, 25, 26, 27], [0, 1, 2, 3, 4, 5, 6, 7, 8, 9, 10, 11, 12, 13, 14, 15, 16, 17, 18, 19, 20, 21, 22, 23, 24, 25, 26, 27, 28], [0, 1, 2, 3, 4, 5, 6, 7, 8, 9, 10, 11, 12, 13, 14, 15, 16, 17, 18, 19, 20, 21, 22, 23, 24, 25, 26, 27, 28, 29], [0, 1, 2, 3, 4, 5, 6, 7, 8, 9, 10, 11, 12, 13, 14, 15, 16, 17, 18, 19, 20, 21, 22, 23, 24, 25, 26, 27, 28, 29, 30], [0, 1, 2, 3, 4, 5, 6, 7, 8, 9, 10, 11, 12, 13, 14, 15, 16, 17, 18, 19, 20, 21, 22, 23, 24, 25, 26, 27, 28, 29, 30, 31], [0, 1, 2, 3, 4, 5, 6, 7, 8, 9, 10, 11, 12, 13, 14, 15, 16, 17, 18, 19, 20, 21, 22, 23, 24, 25, 26, 27, 28, 29, 30, 31, 32], [0, 1, 2, 3, 4, 5, 6, 7, 8, 9, 10, 11, 12, 13, 14, 15, 16, 17, 18, 19, 20, 21, 22, 23, 24, 25, 26, 27, 28, 29, 30, 31, 32, 33]] [[], [7], [7, 8], [7, 8, 9], [7, 8, 9, 10], [7, 8, 9, 10, 11], [7, 8, 9, 10, 11, 12], [7, 8, 9, 10, 11], [7, 8, 9, 10, 11, 14], [7, 8, 9, 10, 11, 12, 13, 14, 15], [7, 8, 9, 10, 11, 12, 13, 14, 15, 16], [7, 8, 9, 10, 11, 12, 13, 14, 15, 16, 17], [7, 8, 9, 10, 11, 12, 13, 14, 15, 16, 17, 18], [7, 8, 9, 10, 11, 12, 13, 14, 15, 16, 17, 18, 19], [7, 8, 9, 10, 11, 12, 13, 14, 15, 16, 17, 18, 19], [7, 8, 9, 10, 11, 12, 13, 14, 15, 16, 17, 18, 19, 21], [7, 8, 9, 10, 11, 12, 13, 14, 15, 16, 17, 18, 19], [7, 8, 9, 10, 11, 12, 13, 14, 15, 16, 17, 18, 19, 23], [7, 8, 9, 10, 11, 12, 13, 14, 15, 16, 17, 18, 19], [7, 8, 9, 10, 11, 12, 13, 14, 15, 16, 17, 18, 19, 25], [7, 8, 9, 10, 11, 12, 13, 14, 15, 16, 17, 18, 19, 25, 26], [7, 8, 9, 10, 11, 12, 13, 14, 15, 16, 17, 18, 19, 20, 21, 22, 23, 24, 25, 26, 27], [7, 8, 9, 10, 11, 12, 13, 14, 15, 16, 17, 18, 19, 20, 21, 22, 23, 24, 25, 26, 27, 28], [7, 8, 9, 10, 11, 12, 13, 14, 15, 16, 17, 18, 19, 20, 21, 22, 23, 24, 25, 26, 27, 28, 29], [7, 8, 9, 10, 11, 12, 13, 14, 15, 16, 17, 18, 19, 20, 21, 22, 23, 24, 25, 26, 27, 28, 29, 30], [7, 8, 9, 10, 11, 12, 13, 14, 15, 16, 17, 18, 19, 20, 21, 22, 23, 24, 25, 26, 27, 28, 29, 30, 31], [7, 8, 9, 10, 11, 12, 13, 14, 15, 16, 17, 18, 19, 20, 21, 22, 23, 24, 25, 26, 27, 28, 29, 30, 31, 32], [7, 8, 9, 10, 11, 12, 13, 14, 15, 16, 17, 18, 19, 20, 21, 22, 23, 24, 25, 26, 27, 28, 29, 30, 31, 32, 33], [7, 8, 9, 10, 11, 12, 13, 14, 15, 16, 17, 18, 19, 20, 21, 22, 23, 24, 25, 26, 27, 28, 29, 30, 31, 32, 33, 34], [7, 8, 9, 10, 11, 12, 13, 14, 15, 16, 17, 18, 19, 20, 21, 22, 23, 24, 25, 26, 27, 28, 29, 30, 31, 32, 33, 34, 35], [7, 8, 9, 10, 11, 12, 13, 14, 15, 16, 17, 18, 19, 20, 21, 22, 23, 24, 25, 26, 27, 28, 29, 30, 31, 32, 33, 34, 35, 36], [7, 8, 9, 10, 11, 12, 13, 14, 15, 16, 17, 18, 19, 20, 21, 22, 23, 24, 25, 26, 27, 28, 29, 30, 31, 32, 33, 34, 35, 36, 37], [7, 8, 9, 10, 11, 12, 13, 14, 15, 16, 17, 18, 19, 20, 21, 22, 23, 24, 25, 26, 27, 28, 29, 30, 31, 32, 33, 34, 35, 36, 37, 38], [7, 8, 9, 10, 11, 12, 13, 14, 15, 16, 17, 18, 19, 20, 21, 22, 23, 24, 25, 26, 27, 28, 29, 30, 31, 32, 33, 34, 35, 36, 37, 38, 39], [7, 8, 9, 10, 11, 12, 13, 14, 15, 16, 17, 18, 19, 20, 21, 22, 23, 24, 25, 26, 27, 28, 29, 30, 31, 32, 33, 34, 35, 36, 37, 38, 39, 40]] [[], [], [], [], [], [14, 15], [14, 15], [12, 13], [12, 13], [], [], [], [], [21, 22, 23, 24, 25, 26, 27], [20, 23, 24, 25, 26, 27], [20, 23, 24, 25, 26, 27], [20, 21, 22, 25, 26, 27], [20, 21, 22, 25, 26, 27], [20, 21, 22, 23, 24], [20, 21, 22, 23, 24], [20, 21, 22, 23, 24], [], [], [], [], [], [], [], [], [], [], [], [], [], []] rfl ?_
            refine DR.step (q_fldp rfl rfl rfl rfl (by decide)) rfl rfl ?_; refine DR.step (q_ld1 rfl rfl rfl rfl rfl) rfl rfl ?_; refine DR.step (q_call0 rfl rfl (h1) rfl) rfl rfl ?_
            refine DR.step (q_not rfl rfl rfl) rfl rfl ?_; refine DR.step (q_moveC rfl rfl rfl) rfl rfl ?_; refine DR.step (Qt.yes rfl rfl rfl (q_fldp rfl rfl rfl rfl (by decide))) rfl rfl ?_
            refine DR.step (Qt.yes rfl rfl rfl (q_ld1 rfl rfl rfl rfl rfl)) rfl rfl ?_; refine DR.step (Qt.yes rfl rfl rfl (q_moveC rfl rfl rfl)) rfl rfl ?_
            refine DR.step (Qt.yes rfl rfl rfl (q_sub rfl rfl rfl rfl (by omega))) rfl rfl ?_; refine DR.step (Qt.yes rfl rfl rfl (q_call0 rfl rfl (h2) rfl)) rfl rfl ?_
            refine DR.step (Qt.yes rfl rfl rfl (q_not rfl rfl rfl)) rfl rfl ?_; refine DR.step (q_pickF rfl rfl rfl rfl) rfl rfl ?_; refine DR.step (q_moveC rfl rfl rfl) rfl rfl ?_
            refine DR.step (Qt.yes rfl rfl rfl (q_ldN rfl rfl rfl rfl rfl rfl)) rfl rfl ?_; refine DR.step (Qt.yes rfl rfl rfl (q_fldp rfl rfl rfl rfl (by decide))) rfl rfl ?_
            refine DR.step (Qt.yes rfl rfl rfl (q_ld1 rfl rfl rfl rfl rfl)) rfl rfl ?_; refine DR.step (Qt.yes rfl rfl rfl (q_fldp rfl rfl rfl rfl (by decide))) rfl rfl ?_
            refine DR.step (Qt.yes rfl rfl rfl (q_ld1 rfl rfl rfl rfl rfl)) rfl rfl ?_; refine DR.step (Qt.yes rfl rfl rfl (q_fldp rfl rfl rfl rfl (by decide))) rfl rfl ?_
            refine DR.step (Qt.yes rfl rfl rfl (q_ld1 rfl rfl rfl rfl rfl)) rfl rfl ?_; refine DR.step (Qt.yes rfl rfl rfl (q_call0 rfl rfl (hsz) rfl)) rfl rfl ?_
            refine DR.step (Qt.yes rfl rfl rfl (q_call0 rfl rfl (h3) rfl)) rfl rfl ?_; refine DR.step (q_pickF rfl rfl rfl rfl) rfl rfl ?_; refine DR.step (q_moveC rfl rfl rfl) rfl rfl ?_
            refine DR.step (Qt.yes rfl rfl rfl (q_fldp rfl rfl rfl rfl (by decide))) rfl rfl ?_; refine DR.step (Qt.yes rfl rfl rfl (q_ld1 rfl rfl rfl rfl rfl)) rfl rfl ?_
            refine DR.step (Qt.yes rfl rfl rfl (q_call0 rfl rfl (h4) rfl)) rfl rfl ?_; refine DR.step (Qt.yes rfl rfl rfl (q_not rfl rfl rfl)) rfl rfl ?_
            refine DR.step (q_pickF rfl rfl rfl rfl) rfl rfl ?_; refine DR.step (q_moveC rfl rfl rfl) rfl rfl ?_
            refine DR.step (Qt.yes rfl rfl rfl (q_fldp rfl rfl rfl rfl (by decide))) rfl rfl ?_; refine DR.step (Qt.yes rfl rfl rfl (q_ld1 rfl rfl rfl rfl rfl)) rfl rfl ?_
            refine DR.step (Qt.yes rfl rfl rfl (q_call0 rfl rfl (h5) rfl)) rfl rfl ?_; refine DR.step (Qt.yes rfl rfl rfl (q_not rfl rfl rfl)) rfl rfl ?_
            refine DR.step (q_pickF rfl rfl rfl rfl) rfl rfl ?_; refine DR.stop (by kernel_rfl) (by kernel_rfl) ?_
            refine L_nil ?_; refine T_n ?_; refine A_ifT rfl ?_; refine A_seq ?_; refine A_region ?_; refine M0 (q_assignC rfl rfl rfl) rfl rfl ?_; refine L_nil ?_; refine T_n ?_; refine A_ret ?_; refine T_r ?_
            refine F_r ?_
            exact E_tmp rfl rfl (W_end [] (by decide) rfl rfl rfl)
          | true =>
            rw [e5] at h5
            rw [show bodyM l n b = tailM b by rw [bodyM, e1, e2, e3, e4, e5]; rfl]
            by_cases k0 : b.Kind = 0
            · have hk : decide (b.Kind = 0) = true := decide_eq_true k0
              refine Con.of Try.func117 rfl Try.ntmps117 rfl (fun E => ?_)
              refine A_seq ?_; refine A_region ?_; refine M1 (q_boxN rfl rfl rfl rfl) rfl rfl ?_; refine M1 (q_boxN rfl rfl rfl rfl) rfl rfl ?_; refine M0 (q_assignC rfl rfl rfl) rfl rfl ?_
              refine L_nil ?_; refine T_n ?_; refine A_seq ?_; refine A_seq ?_
              refine A_draw [[], [0], [0, 1], [0, 1, 2], [0, 1, 2, 3], [0, 1, 2, 3, 4], [0, 1, 2, 3, 4, 5], [0, 1, 2, 3, 4], [0, 1, 2, 3, 4, 7], [0, 1, 2, 3, 4, 5, 6, 7, 8], [0, 1, 2, 3, 4, 5, 6, 7, 8, 9], [0, 1, 2, 3, 4, 5, 6, 7, 8, 9, 10], [0, 1, 2, 3, 4, 5, 6, 7, 8, 9, 10, 11], [0, 1, 2, 3, 4, 5, 6, 7, 8, 9, 10, 11, 12], [0, 1, 2, 3, 4, 5, 6, 7, 8, 9, 10, 11, 12], [0, 1, 2, 3, 4, 5, 6, 7, 8, 9, 10, 11, 12, 14], [0, 1, 2, 3, 4, 5, 6, 7, 8, 9, 10, 11, 12], [0, 1, 2, 3, 4, 5, 6, 7, 8, 9, 10, 11, 12, 16], [0, 1, 2, 3, 4, 5, 6, 7, 8, 9, 10, 11, 12], [0, 1, 2, 3, 4, 5, 6, 7, 8, 9, 10, 11, 12, 18], [0, 1, 2, 3, 4, 5, 6, 7, 8, 9, 10, 11, 12, 18, 19], [0, 1, 2, 3, 4, 5, 6, 7, 8, 9, 10, 11, 12, 13, 14, 15, 16, 17, 18, 19, 20], [0, 1, 2, 3, 4, 5, 6, 7, 8, 9, 10, 11, 12, 13, 14, 15, 16, 17, 18, 19, 20, 21], [0, 1, 2, 3, 4, 5, 6, 7, 8, 9, 10, 11, 12, 13, 14, 15, 16, 17, 18, 19, 20, 21, 22], [0, 1, 2, 3, 4, 5, 6, 7, 8, 9, 10, 11, 12, 13, 14, 15, 16, 17, 18, 19, 20, 21, 22, 23], [0, 1, 2, 3, 4, 5, 6, 7, 8, 9, 10, 11, 12, 13, 14, 15, 16, 17, 18, 19, 20, 21, 22, 23, 24], [0, 1, 2, 3, 4, 5, 6, 7, 8, 9, 10, 11, 12, 13, 14, 15, 16, 17, 18, 19, 20, 21, 22, 23, 24, 25], [0, 1, 2, 3, 4, 5, 6, 7, 8, 9, 10, 11, 12, 13, 14, 15, 16, 17, 18, 19, 20, 21, 22, 23, 24, 25, 26], [0, 1, 2, 3, 4, 5, 6, 7, 8, 9, 10, 11, 12, 13, 14, 15, 16, 17, 18, 19, 20, 21, 22, 23, 24, 25, 26, 27], [0, 1, 2, 3, 4, 5, 6, 7, 8, 9, 10, 11, 12, 13, 14, 15, 16, 17, 18, 19, 20, 21, 22, 23, 24, 25, 26, 27, 28], [0, 1, 2, 3, 4, 5, 6, 7, 8, 9, 10, 11, 12, 13, 14, 15, 16, 17, 18, 19, 20, 21, 22, 23, 24, 25, 26, 27, 28, 29], [0, 1, 2, 3, 4, 5, 6, 7, 8, 9, 10, 11, 12, 13, 14, 15, 16, 17, 18, 19, 20, 21, 22, 23, 24, 25, 26, 27, 28, 29, 30], [0, 1, 2, 3, 4, 5, 6, 7, 8, 9, 10, 11, 12, 13, 14, 15, 16, 17, 18, 19, 20, 21, 22, 23, 24, 25, 26, 27, 28, 29, 30, 31], [0, 1, 2, 3, 4, 5, 6, 7, 8, 9, 10, 11, 12, 13, 14, 15, 16, 17, 18, 19, 20, 21, 22, 23, 24, 25, 26, 27, 28, 29, 30, 31, 32], [0, 1, 2, 3, 4, 5, 6, 7, 8, 9, 10, 11, 12, 13, 14, 15, 16, 17, 18, 19, 20, 21, 22, 23, 24, 25, 26, 27, 28, 29, 30, 31, 32, 33]] [[], [7], [7, 8], [7, 8, 9], [7, 8, 9, 10], [7, 8, 9, 10, 11], [7, 8, 9, 10, 11, 12], [7, 8, 9, 10, 11], [7, 8, 9, 10, 11, 14], [7, 8, 9, 10, 11, 12, 13, 14, 15], [7, 8, 9, 10, 11, 12, 13, 14, 15, 16], [7, 8, 9, 10, 11, 12, 13, 14, 15, 16, 17], [7, 8, 9, 10, 11, 12, 13, 14, 15, 16, 17, 18], [7, 8, 9, 10, 11, 12, 13, 14, 15, 16, 17, 18, 19], [7, 8, 9, 10, 11, 12, 13, 14, 15, 16, 17, 18, 19], [7, 8, 9, 10, 11, 12, 13, 14, 15, 16, 17, 18, 19, 21], [7, 8, 9, 10, 11, 12, 13, 14, 15, 16, 17, 18, 19], [7, 8, 9, 10, 11, 12, 13, 14, 15, 16, 17, 18, 19, 23], [7, 8, 9, 10, 11, 12, 13, 14, 15, 16, 17, 18, 19], [7, 8, 9, 10, 11, 12, 13, 14, 15, 16, 17, 18, 19, 25], [7, 8, 9, 10, 11, 12, 13, 14, 15, 16, 17, 18, 19, 25, 26], [7, 8, 9, 10, 11, 12, 13, 14, 15, 16, 17, 18, 19, 20, 21, 22, 23, 24, 25, 26, 27], [7, 8, 9, 10, 11, 12, 13, 14, 15, 16, 17, 18, 19, 20, 21, 22, 23, 24, 25, 26, 27, 28], [7, 8, 9, 10, 11, 12, 13, 14, 15, 16, 17, 18, 19, 20, 21, 22, 23, 24, 25, 26, 27, 28, 29], [7, 8, 9, 10, 11, 12, 13, 14, 15, 16, 17, 18, 19, 20, 21, 22, 23, 24, 25, 26, 27, 28, 29, 30], [7, 8, 9, 10, 11, 12, 13, 14, 15, 16, 17, 18, 19, 20, 21, 22, 23, 24, 25, 26, 27, 28, 29, 30, 31], [7, 8, 9, 10, 11, 12, 13, 14, 15, 16, 17, 18, 19, 20, 21, 22, 23, 24, 25, 26, 27, 28, 29, 30, 31, 32], [7, 8, 9, 10, 11, 12, 13, 14, 15, 16, 17, 18, 19, 20, 21, 22, 23, 24, 25, 26, 27, 28, 29, 30, 31, 32, 33], [7, 8, 9, 10, 11, 12, 13, 14, 15, 16, 17, 18, 19, 20, 21, 22, 23, 24, 25, 26, 27, 28, 29, 30, 31, 32, 33, 34], [7, 8, 9, 10, 11, 12, 13, 14, 15, 16, 17, 18, 19, 20, 21, 22, 23, 24, 25, 26, 27, 28, 29, 30, 31, 32, 33, 34, 35], [7, 8, 9, 10, 11, 12, 13, 14, 15, 16, 17, 18, 19, 20, 21, 22, 23, 24, 25, 26, 27, 28, 29, 30, 31, 32, 33, 34, 35, 36], [7, 8, 9, 10, 11, 12, 13, 14, 15, 16, 17, 18, 19, 20, 21, 22, 23, 24, 25, 26, 27, 28, 29, 30, 31, 32, 33, 34, 35, 36, 37], [7, 8, 9, 10, 11, 12, 13, 14, 15, 16, 17, 18, 19, 20, 21, 22, 23, 24, 25, 26, 27, 28, 29, 30, 31, 32, 33, 34, 35, 36, 37, 38], [7, 8, 9, 10, 11, 12, 13, 14, 15, 16, 17, 18, 19, 20, 21, 22, 23, 24, 25, 26, 27, 28, 29, 30, 31, 32, 33, 34, 35, 36, 37, 38, 39], [7, 8, 9, 10, 11, 12, 13, 14, 15, 16, 17, 18, 19, 20, 21, 22, 23, 24, 25, 26, 27, 28, 29, 30, 31, 32, 33, 34, 35, 36, 37, 38, 39, 40]] [[], [], [], [], [], [14, 15], [14, 15], [12, 13], [12, 13], [], [], [], [], [21, 22, 23, 24, 25, 26, 27], [20, 23, 24, 25, 26, 27], [20, 23, 24, 25, 26, 27], [20, 21, 22, 25, 26, 27], [20, 21, 22, 25, 26, 27], [20, 21, 22, 23, 24], [20, 21, 22, 23, 24], [20, 21, 22, 23, 24], [], [], [], [], [], [], [], [], [], [], [], [], [], []] rfl ?_
              refine DR.step (q_fldp rfl rfl rfl rfl (by decide)) rfl rfl ?_; refine DR.step (q_ld1 rfl rfl rfl rfl rfl) rfl rfl ?_; refine DR.step (q_call0 rfl rfl (h1) rfl) rfl rfl ?_
              refine DR.step (q_not rfl rfl rfl) rfl rfl ?_; refine DR.step (q_moveC rfl rfl rfl) rfl rfl ?_; refine DR.step (Qt.yes rfl rfl rfl (q_fldp rfl rfl rfl rfl (by decide))) rfl rfl ?_
              refine DR.step (Qt.yes rfl rfl rfl (q_ld1 rfl rfl rfl rfl rfl)) rfl rfl ?_; refine DR.step (Qt.yes rfl rfl rfl (q_moveC rfl rfl rfl)) rfl rfl ?_
              refine DR.step (Qt.yes rfl rfl rfl (q_sub rfl rfl rfl rfl (by omega))) rfl rfl ?_; refine DR.step (Qt.yes rfl rfl rfl (q_call0 rfl rfl (h2) rfl)) rfl rfl ?_
              refine DR.step (Qt.yes rfl rfl rfl (q_not rfl rfl rfl)) rfl rfl ?_; refine DR.step (q_pickF rfl rfl rfl rfl) rfl rfl ?_; refine DR.step (q_moveC rfl rfl rfl) rfl rfl ?_
              refine DR.step (Qt.yes rfl rfl rfl (q_ldN rfl rfl rfl rfl rfl rfl)) rfl rfl ?_; refine DR.step (Qt.yes rfl rfl rfl (q_fldp rfl rfl rfl rfl (by decide))) rfl rfl ?_
              refine DR.step (Qt.yes rfl rfl rfl (q_ld1 rfl rfl rfl rfl rfl)) rfl rfl ?_; refine DR.step (Qt.yes rfl rfl rfl (q_fldp rfl rfl rfl rfl (by decide))) rfl rfl ?_
              refine DR.step (Qt.yes rfl rfl rfl (q_ld1 rfl rfl rfl rfl rfl)) rfl rfl ?_; refine DR.step (Qt.yes rfl rfl rfl (q_fldp rfl rfl rfl rfl (by decide))) rfl rfl ?_
              refine DR.step (Qt.yes rfl rfl rfl (q_ld1 rfl rfl rfl rfl rfl)) rfl rfl ?_; refine DR.step (Qt.yes rfl rfl rfl (q_call0 rfl rfl (hsz) rfl)) rfl rfl ?_
              refine DR.step (Qt.yes rfl rfl rfl (q_call0 rfl rfl (h3) rfl)) rfl rfl ?_; refine DR.step (q_pickF rfl rfl rfl rfl) rfl rfl ?_; refine DR.step (q_moveC rfl rfl rfl) rfl rfl ?_
              refine DR.step (Qt.yes rfl rfl rfl (q_fldp rfl rfl rfl rfl (by decide))) rfl rfl ?_; refine DR.step (Qt.yes rfl rfl rfl (q_ld1 rfl rfl rfl rfl rfl)) rfl rfl ?_
              refine DR.step (Qt.yes rfl rfl rfl (q_call0 rfl rfl (h4) rfl)) rfl rfl ?_; refine DR.step (Qt.yes rfl rfl rfl (q_not rfl rfl rfl)) rfl rfl ?_
              refine DR.step (q_pickF rfl rfl rfl rfl) rfl rfl ?_; refine DR.step (q_moveC rfl rfl rfl) rfl rfl ?_
              refine DR.step (Qt.yes rfl rfl rfl (q_fldp rfl rfl rfl rfl (by decide))) rfl rfl ?_; refine DR.step (Qt.yes rfl rfl rfl (q_ld1 rfl rfl rfl rfl rfl)) rfl rfl ?_
              refine DR.step (Qt.yes rfl rfl rfl (q_call0 rfl rfl (h5) rfl)) rfl rfl ?_; refine DR.step (Qt.yes rfl rfl rfl (q_not rfl rfl rfl)) rfl rfl ?_
              refine DR.step (q_pickF rfl rfl rfl rfl) rfl rfl ?_; refine DR.stop (by kernel_rfl) (by kernel_rfl) ?_
              refine L_nil ?_; refine T_n ?_; refine A_ifF rfl ?_; refine A_skip ?_; refine T_n ?_; refine A_seq ?_; refine A_seq ?_; refine A_region ?_
              refine M0 (q_fldp rfl rfl rfl rfl (by decide)) rfl rfl ?_; refine M0 (q_ld1 rfl rfl rfl rfl rfl) rfl rfl ?_; refine L_nil ?_; refine T_n ?_; refine A_block ?_; refine A_seq ?_
              refine A_region ?_; refine M0 (q_eqlK rfl rfl rfl rfl (by assumption)) rfl rfl ?_; refine M0 (q_assignC rfl rfl rfl) rfl rfl ?_; refine L_nil ?_; refine T_n ?_; refine A_ifT rfl ?_
              refine A_seq ?_; refine A_seq ?_; refine A_region ?_; refine M0 (q_fldp rfl rfl rfl rfl (by decide)) rfl rfl ?_; refine M0 (q_ld1 rfl rfl rfl rfl rfl) rfl rfl ?_
              refine M0 (q_neq rfl rfl rfl rfl) rfl rfl ?_; refine M0 (q_moveC rfl rfl rfl) rfl rfl ?_
              refine M0 (Qt.grdT rfl rfl rfl .stop (fun hgrd => q_fldp rfl rfl rfl rfl (by decide))) rfl rfl ?_
              refine M0 (Qt.grdT rfl rfl rfl (.hit .stop) (fun hgrd => q_ld1 rfl rfl rfl rfl rfl)) rfl rfl ?_
              refine M0 (Qt.grdT rfl rfl rfl (.hit (.hit .stop)) (fun hgrd => q_neq rfl rfl rfl rfl)) rfl rfl ?_; refine M0 (q_and rfl rfl rfl rfl) rfl rfl ?_
              refine M0 (q_moveC rfl rfl rfl) rfl rfl ?_; refine M0 (Qt.grdF rfl rfl rfl .stop (fun hgrd => q_fldp rfl rfl rfl rfl (by decide))) rfl rfl ?_
              refine M0 (Qt.grdF rfl rfl rfl (.hit .stop) (fun hgrd => q_ld1 rfl rfl rfl rfl rfl)) rfl rfl ?_
              refine M0 (Qt.grdF rfl rfl rfl (.hit (.hit .stop)) (fun hgrd => q_call0 rfl rfl (S_in b.Life 0 3) rfl)) rfl rfl ?_
              refine M0 (Qt.grdF rfl rfl rfl (.hit (.hit (.hit .stop))) (fun hgrd => q_not rfl rfl rfl)) rfl rfl ?_; refine M0 (q_or rfl rfl rfl rfl) rfl rfl ?_; refine L_nil ?_; refine T_n ?_
              refine A_cond rfl (fun h => ?_) (fun h => ?_)
              · rw [show tailM b = false by
                  rw [tailM, if_pos k0]
                  simp only [Bool.or_eq_true, Bool.and_eq_true, decide_eq_true_eq, Bool.not_eq_true'] at h
                  rcases h with h | h
                  · rw [decide_eq_false (by omega)]; rfl
                  · rw [h]; simp]
                refine A_seq ?_; refine A_region ?_; refine M0 (q_assignC rfl rfl rfl) rfl rfl ?_; refine L_nil ?_; refine T_n ?_; refine A_ret ?_; refine T_r ?_; refine B_r ?_; refine T_r ?_; refine F_r ?_
                exact E_tmp rfl rfl (W_end [] (by decide) rfl rfl rfl)
              simp only [Bool.or_eq_false_iff, Bool.and_eq_false_iff, decide_eq_false_iff_not, Bool.not_eq_false'] at h
              have ht : tailM b = if b.Life = 0 then inR b.Timer 1 20 else inR b.Timer 0 12 := by
                rw [tailM, if_pos k0, decide_eq_true (by omega), h.2]; rfl
              by_cases l0 : b.Life = 0
              · have hk2 : decide (b.Life = 0) = true := decide_eq_true l0
                rw [ht, if_pos l0]
                refine A_skip ?_; refine T_n ?_; refine A_seq ?_; refine A_seq ?_; refine A_region ?_; refine M0 (q_fldp rfl rfl rfl rfl (by decide)) rfl rfl ?_
                refine M0 (q_ld1 rfl rfl rfl rfl rfl) rfl rfl ?_; refine M0 (q_eqlK rfl rfl rfl rfl (by assumption)) rfl rfl ?_; refine L_nil ?_; refine T_n ?_; refine A_ifT rfl ?_; refine A_seq ?_
                refine A_region ?_; refine M0 (q_fldp rfl rfl rfl rfl (by decide)) rfl rfl ?_; refine M0 (q_ld1 rfl rfl rfl rfl rfl) rfl rfl ?_
                refine M0 (q_call0 rfl rfl (S_in b.Timer 1 20) rfl) rfl rfl ?_; refine M0 (q_assignC rfl rfl rfl) rfl rfl ?_; refine L_nil ?_; refine T_n ?_; refine A_ret ?_; refine T_r ?_; refine B_r ?_
                refine T_r ?_; refine F_r ?_
                exact E_tmp rfl rfl (W_end [] (by decide) rfl rfl rfl)
              · have hk2 : decide (b.Life = 0) = false := decide_eq_false l0
                rw [ht, if_neg l0]
                refine A_skip ?_; refine T_n ?_; refine A_seq ?_; refine A_seq ?_; refine A_region ?_; refine M0 (q_fldp rfl rfl rfl rfl (by decide)) rfl rfl ?_
                refine M0 (q_ld1 rfl rfl rfl rfl rfl) rfl rfl ?_; refine M0 (q_eqlK rfl rfl rfl rfl (by assumption)) rfl rfl ?_; refine L_nil ?_; refine T_n ?_; refine A_ifF rfl ?_; refine A_skip ?_
                refine T_n ?_; refine A_seq ?_; refine A_region ?_; refine M0 (q_fldp rfl rfl rfl rfl (by decide)) rfl rfl ?_; refine M0 (q_ld1 rfl rfl rfl rfl rfl) rfl rfl ?_
                refine M0 (q_call0 rfl rfl (S_in b.Timer 0 12) rfl) rfl rfl ?_; refine M0 (q_assignC rfl rfl rfl) rfl rfl ?_; refine L_nil ?_; refine T_n ?_; refine A_ret ?_; refine B_r ?_; refine T_r ?_
                refine F_r ?_
                exact E_tmp rfl rfl (W_end [] (by decide) rfl rfl rfl)
            have hk : decide (b.Kind = 0) = false := decide_eq_false k0
            by_cases k1 : b.Kind = 1
            · have hk1 : decide (b.Kind = 1) = true := decide_eq_true k1
              refine Con.of Try.func117 rfl Try.ntmps117 rfl (fun E => ?_)
              refine A_seq ?_; refine A_region ?_; refine M1 (q_boxN rfl rfl rfl rfl) rfl rfl ?_; refine M1 (q_boxN rfl rfl rfl rfl) rfl rfl ?_; refine M0 (q_assignC rfl rfl rfl) rfl rfl ?_
              refine L_nil ?_; refine T_n ?_; refine A_seq ?_; refine A_seq ?_
              refine A_draw [[], [0], [0, 1], [0, 1, 2], [0, 1, 2, 3], [0, 1, 2, 3, 4], [0, 1, 2, 3, 4, 5], [0, 1, 2, 3, 4], [0, 1, 2, 3, 4, 7], [0, 1, 2, 3, 4, 5, 6, 7, 8], [0, 1, 2, 3, 4, 5, 6, 7, 8, 9], [0, 1, 2, 3, 4, 5, 6, 7, 8, 9, 10], [0, 1, 2, 3, 4, 5, 6, 7, 8, 9, 10, 11], [0, 1, 2, 3, 4, 5, 6, 7, 8, 9, 10, 11, 12], [0, 1, 2, 3, 4, 5, 6, 7, 8, 9, 10, 11, 12], [0, 1, 2, 3, 4, 5, 6, 7, 8, 9, 10, 11, 12, 14], [0, 1, 2, 3, 4, 5, 6, 7, 8, 9, 10, 11, 12], [0, 1, 2, 3, 4, 5, 6, 7, 8, 9, 10, 11, 12, 16], [0, 1, 2, 3, 4, 5, 6, 7, 8, 9, 10, 11, 12], [0, 1, 2, 3, 4, 5, 6, 7, 8, 9, 10, 11, 12, 18], [0, 1, 2, 3, 4, 5, 6, 7, 8, 9, 10, 11, 12, 18, 19], [0, 1, 2, 3, 4, 5, 6, 7, 8, 9, 10, 11, 12, 13, 14, 15, 16, 17, 18, 19, 20], [0, 1, 2, 3, 4, 5, 6, 7, 8, 9, 10, 11, 12, 13, 14, 15, 16, 17, 18, 19, 20, 21], [0, 1, 2, 3, 4, 5, 6, 7, 8, 9, 10, 11, 12, 13, 14, 15, 16, 17, 18, 19, 20, 21, 22], [0, 1, 2, 3, 4, 5, 6, 7, 8, 9, 10, 11, 12, 13, 14, 15, 16, 17, 18, 19, 20, 21, 22, 23], [0, 1, 2, 3, 4, 5, 6, 7, 8, 9, 10, 11, 12, 13, 14, 15, 16, 17, 18, 19, 20, 21, 22, 23, 24], [0, 1, 2, 3, 4, 5, 6, 7, 8, 9, 10, 11, 12, 13, 14, 15, 16, 17, 18, 19, 20, 21, 22, 23, 24, 25], [0, 1, 2, 3, 4, 5, 6, 7, 8, 9, 10, 11, 12, 13, 14, 15, 16, 17, 18, 19, 20, 21, 22, 23, 24, 25, 26], [0, 1, 2, 3, 4, 5, 6, 7, 8, 9, 10, 11, 12, 13, 14, 15, 16, 17, 18, 19, 20, 21, 22, 23, 24, 25, 26, 27], [0, 1, 2, 3, 4, 5, 6, 7, 8, 9, 10, 11, 12, 13, 14, 15, 16, 17, 18, 19, 20, 21, 22, 23, 24, 25, 26, 27, 28], [0, 1, 2, 3, 4, 5, 6, 7, 8, 9, 10, 11, 12, 13, 14, 15, 16, 17, 18, 19, 20, 21, 22, 23, 24, 25, 26, 27, 28, 29], [0, 1, 2, 3, 4, 5, 6, 7, 8, 9, 10, 11, 12, 13, 14, 15, 16, 17, 18, 19, 20, 21, 22, 23, 24, 25, 26, 27, 28, 29, 30], [0, 1, 2, 3, 4, 5, 6, 7, 8, 9, 10, 11, 12, 13, 14, 15, 16, 17, 18, 19, 20, 21, 22, 23, 24, 25, 26, 27, 28, 29, 30, 31], [0, 1, 2, 3, 4, 5, 6, 7, 8, 9, 10, 11, 12, 13, 14, 15, 16, 17, 18, 19, 20, 21, 22, 23, 24, 25, 26, 27, 28, 29, 30, 31, 32], [0, 1, 2, 3, 4, 5, 6, 7, 8, 9, 10, 11, 12, 13, 14, 15, 16, 17, 18, 19, 20, 21, 22, 23, 24, 25, 26, 27, 28, 29, 30, 31, 32, 33]] [[], [7], [7, 8], [7, 8, 9], [7, 8, 9, 10], [7, 8, 9, 10, 11], [7, 8, 9, 10, 11, 12], [7, 8, 9, 10, 11], [7, 8, 9, 10, 11, 14], [7, 8, 9, 10, 11, 12, 13, 14, 15], [7, 8, 9, 10, 11, 12, 13, 14, 15, 16], [7, 8, 9, 10, 11, 12, 13, 14, 15, 16, 17], [7, 8, 9, 10, 11, 12, 13, 14, 15, 16, 17, 18], [7, 8, 9, 10, 11, 12, 13, 14, 15, 16, 17, 18, 19], [7, 8, 9, 10, 11, 12, 13, 14, 15, 16, 17, 18, 19], [7, 8, 9, 10, 11, 12, 13, 14, 15, 16, 17, 18, 19, 21], [7, 8, 9, 10, 11, 12, 13, 14, 15, 16, 17, 18, 19], [7, 8, 9, 10, 11, 12, 13, 14, 15, 16, 17, 18, 19, 23], [7, 8, 9, 10, 11, 12, 13, 14, 15, 16, 17, 18, 19], [7, 8, 9, 10, 11, 12, 13, 14, 15, 16, 17, 18, 19, 25], [7, 8, 9, 10, 11, 12, 13, 14, 15, 16, 17, 18, 19, 25, 26], [7, 8, 9, 10, 11, 12, 13, 14, 15, 16, 17, 18, 19, 20, 21, 22, 23, 24, 25, 26, 27], [7, 8, 9, 10, 11, 12, 13, 14, 15, 16, 17, 18, 19, 20, 21, 22, 23, 24, 25, 26, 27, 28], [7, 8, 9, 10, 11, 12, 13, 14, 15, 16, 17, 18, 19, 20, 21, 22, 23, 24, 25, 26, 27, 28, 29], [7, 8, 9, 10, 11, 12, 13, 14, 15, 16, 17, 18, 19, 20, 21, 22, 23, 24, 25, 26, 27, 28, 29, 30], [7, 8, 9, 10, 11, 12, 13, 14, 15, 16, 17, 18, 19, 20, 21, 22, 23, 24, 25, 26, 27, 28, 29, 30, 31], [7, 8, 9, 10, 11, 12, 13, 14, 15, 16, 17, 18, 19, 20, 21, 22, 23, 24, 25, 26, 27, 28, 29, 30, 31, 32], [7, 8, 9, 10, 11, 12, 13, 14, 15, 16, 17, 18, 19, 20, 21, 22, 23, 24, 25, 26, 27, 28, 29, 30, 31, 32, 33], [7, 8, 9, 10, 11, 12, 13, 14, 15, 16, 17, 18, 19, 20, 21, 22, 23, 24, 25, 26, 27, 28, 29, 30, 31, 32, 33, 34], [7, 8, 9, 10, 11, 12, 13, 14, 15, 16, 17, 18, 19, 20, 21, 22, 23, 24, 25, 26, 27, 28, 29, 30, 31, 32, 33, 34, 35], [7, 8, 9, 10, 11, 12, 13, 14, 15, 16, 17, 18, 19, 20, 21, 22, 23, 24, 25, 26, 27, 28, 29, 30, 31, 32, 33, 34, 35, 36], [7, 8, 9, 10, 11, 12, 13, 14, 15, 16, 17, 18, 19, 20, 21, 22, 23, 24, 25, 26, 27, 28, 29, 30, 31, 32, 33, 34, 35, 36, 37], [7, 8, 9, 10, 11, 12, 13, 14, 15, 16, 17, 18, 19, 20, 21, 22, 23, 24, 25, 26, 27, 28, 29, 30, 31, 32, 33, 34, 35, 36, 37, 38], [7, 8, 9, 10, 11, 12, 13, 14, 15, 16, 17, 18, 19, 20, 21, 22, 23, 24, 25, 26, 27, 28, 29, 30, 31, 32, 33, 34, 35, 36, 37, 38, 39], [7, 8, 9, 10, 11, 12, 13, 14, 15, 16, 17, 18, 19, 20, 21, 22, 23, 24, 25, 26, 27, 28, 29, 30, 31, 32, 33, 34, 35, 36, 37, 38, 39, 40]] [[], [], [], [], [], [14, 15], [14, 15], [12, 13], [12, 13], [], [], [], [], [21, 22, 23, 24, 25, 26, 27], [20, 23, 24, 25, 26, 27], [20, 23, 24, 25, 26, 27], [20, 21, 22, 25, 26, 27], [20, 21, 22, 25, 26, 27], [20, 21, 22, 23, 24], [20, 21, 22, 23, 24], [20, 21, 22, 23, 24], [], [], [], [], [], [], [], [], [], [], [], [], [], []] rfl ?_
              refine DR.step (q_fldp rfl rfl rfl rfl (by decide)) rfl rfl ?_; refine DR.step (q_ld1 rfl rfl rfl rfl rfl) rfl rfl ?_; refine DR.step (q_call0 rfl rfl (h1) rfl) rfl rfl ?_
              refine DR.step (q_not rfl rfl rfl) rfl rfl ?_; refine DR.step (q_moveC rfl rfl rfl) rfl rfl ?_; refine DR.step (Qt.yes rfl rfl rfl (q_fldp rfl rfl rfl rfl (by decide))) rfl rfl ?_
              refine DR.step (Qt.yes rfl rfl rfl (q_ld1 rfl rfl rfl rfl rfl)) rfl rfl ?_; refine DR.step (Qt.yes rfl rfl rfl (q_moveC rfl rfl rfl)) rfl rfl ?_
              refine DR.step (Qt.yes rfl rfl rfl (q_sub rfl rfl rfl rfl (by omega))) rfl rfl ?_; refine DR.step (Qt.yes rfl rfl rfl (q_call0 rfl rfl (h2) rfl)) rfl rfl ?_
              refine DR.step (Qt.yes rfl rfl rfl (q_not rfl rfl rfl)) rfl rfl ?_; refine DR.step (q_pickF rfl rfl rfl rfl) rfl rfl ?_; refine DR.step (q_moveC rfl rfl rfl) rfl rfl ?_
              refine DR.step (Qt.yes rfl rfl rfl (q_ldN rfl rfl rfl rfl rfl rfl)) rfl rfl ?_; refine DR.step (Qt.yes rfl rfl rfl (q_fldp rfl rfl rfl rfl (by decide))) rfl rfl ?_
              refine DR.step (Qt.yes rfl rfl rfl (q_ld1 rfl rfl rfl rfl rfl)) rfl rfl ?_; refine DR.step (Qt.yes rfl rfl rfl (q_fldp rfl rfl rfl rfl (by decide))) rfl rfl ?_
              refine DR.step (Qt.yes rfl rfl rfl (q_ld1 rfl rfl rfl rfl rfl)) rfl rfl ?_; refine DR.step (Qt.yes rfl rfl rfl (q_fldp rfl rfl rfl rfl (by decide))) rfl rfl ?_
              refine DR.step (Qt.yes rfl rfl rfl (q_ld1 rfl rfl rfl rfl rfl)) rfl rfl ?_; refine DR.step (Qt.yes rfl rfl rfl (q_call0 rfl rfl (hsz) rfl)) rfl rfl ?_
              refine DR.step (Qt.yes rfl rfl rfl (q_call0 rfl rfl (h3) rfl)) rfl rfl ?_; refine DR.step (q_pickF rfl rfl rfl rfl) rfl rfl ?_; refine DR.step (q_moveC rfl rfl rfl) rfl rfl ?_
              refine DR.step (Qt.yes rfl rfl rfl (q_fldp rfl rfl rfl rfl (by decide))) rfl rfl ?_; refine DR.step (Qt.yes rfl rfl rfl (q_ld1 rfl rfl rfl rfl rfl)) rfl rfl ?_
              refine DR.step (Qt.yes rfl rfl rfl (q_call0 rfl rfl (h4) rfl)) rfl rfl ?_; refine DR.step (Qt.yes rfl rfl rfl (q_not rfl rfl rfl)) rfl rfl ?_
              refine DR.step (q_pickF rfl rfl rfl rfl) rfl rfl ?_; refine DR.step (q_moveC rfl rfl rfl) rfl rfl ?_
              refine DR.step (Qt.yes rfl rfl rfl (q_fldp rfl rfl rfl rfl (by decide))) rfl rfl ?_; refine DR.step (Qt.yes rfl rfl rfl (q_ld1 rfl rfl rfl rfl rfl)) rfl rfl ?_
              refine DR.step (Qt.yes rfl rfl rfl (q_call0 rfl rfl (h5) rfl)) rfl rfl ?_; refine DR.step (Qt.yes rfl rfl rfl (q_not rfl rfl rfl)) rfl rfl ?_
              refine DR.step (q_pickF rfl rfl rfl rfl) rfl rfl ?_; refine DR.stop (by kernel_rfl) (by kernel_rfl) ?_
              refine L_nil ?_; refine T_n ?_; refine A_ifF rfl ?_; refine A_skip ?_; refine T_n ?_; refine A_seq ?_; refine A_seq ?_; refine A_region ?_
              refine M0 (q_fldp rfl rfl rfl rfl (by decide)) rfl rfl ?_; refine M0 (q_ld1 rfl rfl rfl rfl rfl) rfl rfl ?_; refine L_nil ?_; refine T_n ?_; refine A_block ?_; refine A_seq ?_
              refine A_region ?_; refine M0 (q_eqlK rfl rfl rfl rfl (by assumption)) rfl rfl ?_; refine M0 (q_assignC rfl rfl rfl) rfl rfl ?_; refine L_nil ?_; refine T_n ?_; refine A_ifF rfl ?_
              refine A_seq ?_; refine A_region ?_; refine M0 (q_eqlK rfl rfl rfl rfl (by assumption)) rfl rfl ?_; refine M0 (q_assignC rfl rfl rfl) rfl rfl ?_; refine L_nil ?_; refine T_n ?_
              refine A_ifT rfl ?_; refine A_seq ?_; refine A_region ?_; refine M0 (q_fldp rfl rfl rfl rfl (by decide)) rfl rfl ?_; refine M0 (q_ld1 rfl rfl rfl rfl rfl) rfl rfl ?_
              refine M0 (q_eql rfl rfl rfl rfl) rfl rfl ?_; refine M0 (q_moveC rfl rfl rfl) rfl rfl ?_
              refine M0 (Qt.grdT rfl rfl rfl .stop (fun hgrd => q_fldp rfl rfl rfl rfl (by decide))) rfl rfl ?_
              refine M0 (Qt.grdT rfl rfl rfl (.hit .stop) (fun hgrd => q_ld1 rfl rfl rfl rfl rfl)) rfl rfl ?_
              refine M0 (Qt.grdT rfl rfl rfl (.hit (.hit .stop)) (fun hgrd => q_eql rfl rfl rfl rfl)) rfl rfl ?_; refine M0 (q_and rfl rfl rfl rfl) rfl rfl ?_
              refine M0 (q_moveC rfl rfl rfl) rfl rfl ?_; refine M0 (Qt.grdT rfl rfl rfl .stop (fun hgrd => q_fldp rfl rfl rfl rfl (by decide))) rfl rfl ?_
              refine M0 (Qt.grdT rfl rfl rfl (.hit .stop) (fun hgrd => q_ld1 rfl rfl rfl rfl rfl)) rfl rfl ?_
              refine M0 (Qt.grdT rfl rfl rfl (.hit (.hit .stop)) (fun hgrd => q_call0 rfl rfl (S_in b.Timer 1 25) rfl)) rfl rfl ?_; refine M0 (q_and rfl rfl rfl rfl) rfl rfl ?_
              refine M0 (q_assignC rfl rfl rfl) rfl rfl ?_; refine L_nil ?_; refine T_n ?_; refine A_ret ?_; refine B_r ?_; refine T_r ?_; refine F_r ?_
              exact E_tmp rfl rfl (W_end [] (by decide) rfl rfl (B_eq (by rw [tailM, if_neg k0, if_pos k1, ← Bool.decide_and])))
            · have hk1 : decide (b.Kind = 1) = false := decide_eq_false k1
              refine Con.of Try.func117 rfl Try.ntmps117 rfl (fun E => ?_)
              refine A_seq ?_; refine A_region ?_; refine M1 (q_boxN rfl rfl rfl rfl) rfl rfl ?_; refine M1 (q_boxN rfl rfl rfl rfl) rfl rfl ?_; refine M0 (q_assignC rfl rfl rfl) rfl rfl ?_
              refine L_nil ?_; refine T_n ?_; refine A_seq ?_; refine A_seq ?_
              refine A_draw [[], [0], [0, 1], [0, 1, 2], [0, 1, 2, 3], [0, 1, 2, 3, 4], [0, 1, 2, 3, 4, 5], [0, 1, 2, 3, 4], [0, 1, 2, 3, 4, 7], [0, 1, 2, 3, 4, 5, 6, 7, 8], [0, 1, 2, 3, 4, 5, 6, 7, 8, 9], [0, 1, 2, 3, 4, 5, 6, 7, 8, 9, 10], [0, 1, 2, 3, 4, 5, 6, 7, 8, 9, 10, 11], [0, 1, 2, 3, 4, 5, 6, 7, 8, 9, 10, 11, 12], [0, 1, 2, 3, 4, 5, 6, 7, 8, 9, 10, 11, 12], [0, 1, 2, 3, 4, 5, 6, 7, 8, 9, 10, 11, 12, 14], [0, 1, 2, 3, 4, 5, 6, 7, 8, 9, 10, 11, 12], [0, 1, 2, 3, 4, 5, 6, 7, 8, 9, 10, 11, 12, 16], [0, 1, 2, 3, 4, 5, 6, 7, 8, 9, 10, 11, 12], [0, 1, 2, 3, 4, 5, 6, 7, 8, 9, 10, 11, 12, 18], [0, 1, 2, 3, 4, 5, 6, 7, 8, 9, 10, 11, 12, 18, 19], [0, 1, 2, 3, 4, 5, 6, 7, 8, 9, 10, 11, 12, 13, 14, 15, 16, 17, 18, 19, 20], [0, 1, 2, 3, 4, 5, 6, 7, 8, 9, 10, 11, 12, 13, 14, 15, 16, 17, 18, 19, 20, 21], [0, 1, 2, 3, 4, 5, 6, 7, 8, 9, 10, 11, 12, 13, 14, 15, 16, 17, 18, 19, 20, 21, 22], [0, 1, 2, 3, 4, 5, 6, 7, 8, 9, 10, 11, 12, 13, 14, 15, 16, 17, 18, 19, 20, 21, 22, 23], [0, 1, 2, 3, 4, 5, 6, 7, 8, 9, 10, 11, 12, 13, 14, 15, 16, 17, 18, 19, 20, 21, 22, 23, 24], [0, 1, 2, 3, 4, 5, 6, 7, 8, 9, 10, 11, 12, 13, 14, 15, 16, 17, 18, 19, 20, 21, 22, 23, 24, 25], [0, 1, 2, 3, 4, 5, 6, 7, 8, 9, 10, 11, 12, 13, 14, 15, 16, 17, 18, 19, 20, 21, 22, 23, 24, 25, 26], [0, 1, 2, 3, 4, 5, 6, 7, 8, 9, 10, 11, 12, 13, 14, 15, 16, 17, 18, 19, 20, 21, 22, 23, 24, 25, 26, 27], [0, 1, 2, 3, 4, 5, 6, 7, 8, 9, 10, 11, 12, 13, 14, 15, 16, 17, 18, 19, 20, 21, 22, 23, 24, 25, 26, 27, 28], [0, 1, 2, 3, 4, 5, 6, 7, 8, 9, 10, 11, 12, 13, 14, 15, 16, 17, 18, 19, 20, 21, 22, 23, 24, 25, 26, 27, 28, 29], [0, 1, 2, 3, 4, 5, 6, 7, 8, 9, 10, 11, 12, 13, 14, 15, 16, 17, 18, 19, 20, 21, 22, 23, 24, 25, 26, 27, 28, 29, 30], [0, 1, 2, 3, 4, 5, 6, 7, 8, 9, 10, 11, 12, 13, 14, 15, 16, 17, 18, 19, 20, 21, 22, 23, 24, 25, 26, 27, 28, 29, 30, 31], [0, 1, 2, 3, 4, 5, 6, 7, 8, 9, 10, 11, 12, 13, 14, 15, 16, 17, 18, 19, 20, 21, 22, 23, 24, 25, 26, 27, 28, 29, 30, 31, 32], [0, 1, 2, 3, 4, 5, 6, 7, 8, 9, 10, 11, 12, 13, 14, 15, 16, 17, 18, 19, 20, 21, 22, 23, 24, 25, 26, 27, 28, 29, 30, 31, 32, 33]] [[], [7], [7, 8], [7, 8, 9], [7, 8, 9, 10], [7, 8, 9, 10, 11], [7, 8, 9, 10, 11, 12], [7, 8, 9, 10, 11], [7, 8, 9, 10, 11, 14], [7, 8, 9, 10, 11, 12, 13, 14, 15], [7, 8, 9, 10, 11, 12, 13, 14, 15, 16], [7, 8, 9, 10, 11, 12, 13, 14, 15, 16, 17], [7, 8, 9, 10, 11, 12, 13, 14, 15, 16, 17, 18], [7, 8, 9, 10, 11, 12, 13, 14, 15, 16, 17, 18, 19], [7, 8, 9, 10, 11, 12, 13, 14, 15, 16, 17, 18, 19], [7, 8, 9, 10, 11, 12, 13, 14, 15, 16, 17, 18, 19, 21], [7, 8, 9, 10, 11, 12, 13, 14, 15, 16, 17, 18, 19], [7, 8, 9, 10, 11, 12, 13, 14, 15, 16, 17, 18, 19, 23], [7, 8, 9, 10, 11, 12, 13, 14, 15, 16, 17, 18, 19], [7, 8, 9, 10, 11, 12, 13, 14, 15, 16, 17, 18, 19, 25], [7, 8, 9, 10, 11, 12, 13, 14, 15, 16, 17, 18, 19, 25, 26], [7, 8, 9, 10, 11, 12, 13, 14, 15, 16, 17, 18, 19, 20, 21, 22, 23, 24, 25, 26, 27], [7, 8, 9, 10, 11, 12, 13, 14, 15, 16, 17, 18, 19, 20, 21, 22, 23, 24, 25, 26, 27, 28], [7, 8, 9, 10, 11, 12, 13, 14, 15, 16, 17, 18, 19, 20, 21, 22, 23, 24, 25, 26, 27, 28, 29], [7, 8, 9, 10, 11, 12, 13, 14, 15, 16, 17, 18, 19, 20, 21, 22, 23, 24, 25, 26, 27, 28, 29, 30], [7, 8, 9, 10, 11, 12, 13, 14, 15, 16, 17, 18, 19, 20, 21, 22, 23, 24, 25, 26, 27, 28, 29, 30, 31], [7, 8, 9, 10, 11, 12, 13, 14, 15, 16, 17, 18, 19, 20, 21, 22, 23, 24, 25, 26, 27, 28, 29, 30, 31, 32], [7, 8, 9, 10, 11, 12, 13, 14, 15, 16, 17, 18, 19, 20, 21, 22, 23, 24, 25, 26, 27, 28, 29, 30, 31, 32, 33], [7, 8, 9, 10, 11, 12, 13, 14, 15, 16, 17, 18, 19, 20, 21, 22, 23, 24, 25, 26, 27, 28, 29, 30, 31, 32, 33, 34], [7, 8, 9, 10, 11, 12, 13, 14, 15, 16, 17, 18, 19, 20, 21, 22, 23, 24, 25, 26, 27, 28, 29, 30, 31, 32, 33, 34, 35], [7, 8, 9, 10, 11, 12, 13, 14, 15, 16, 17, 18, 19, 20, 21, 22, 23, 24, 25, 26, 27, 28, 29, 30, 31, 32, 33, 34, 35, 36], [7, 8, 9, 10, 11, 12, 13, 14, 15, 16, 17, 18, 19, 20, 21, 22, 23, 24, 25, 26, 27, 28, 29, 30, 31, 32, 33, 34, 35, 36, 37], [7, 8, 9, 10, 11, 12, 13, 14, 15, 16, 17, 18, 19, 20, 21, 22, 23, 24, 25, 26, 27, 28, 29, 30, 31, 32, 33, 34, 35, 36, 37, 38], [7, 8, 9, 10, 11, 12, 13, 14, 15, 16, 17, 18, 19, 20, 21, 22, 23, 24, 25, 26, 27, 28, 29, 30, 31, 32, 33, 34, 35, 36, 37, 38, 39], [7, 8, 9, 10, 11, 12, 13, 14, 15, 16, 17, 18, 19, 20, 21, 22, 23, 24, 25, 26, 27, 28, 29, 30, 31, 32, 33, 34, 35, 36, 37, 38, 39, 40]] [[], [], [], [], [], [14, 15], [14, 15], [12, 13], [12, 13], [], [], [], [], [21, 22, 23, 24, 25, 26, 27], [20, 23, 24, 25, 26, 27], [20, 23, 24, 25, 26, 27], [20, 21, 22, 25, 26, 27], [20, 21, 22, 25, 26, 27], [20, 21, 22, 23, 24], [20, 21, 22, 23, 24], [20, 21, 22, 23, 24], [], [], [], [], [], [], [], [], [], [], [], [], [], []] rfl ?_
              refine DR.step (q_fldp rfl rfl rfl rfl (by decide)) rfl rfl ?_; refine DR.step (q_ld1 rfl rfl rfl rfl rfl) rfl rfl ?_; refine DR.step (q_call0 rfl rfl (h1) rfl) rfl rfl ?_
              refine DR.step (q_not rfl rfl rfl) rfl rfl ?_; refine DR.step (q_moveC rfl rfl rfl) rfl rfl ?_; refine DR.step (Qt.yes rfl rfl rfl (q_fldp rfl rfl rfl rfl (by decide))) rfl rfl ?_
              refine DR.step (Qt.yes rfl rfl rfl (q_ld1 rfl rfl rfl rfl rfl)) rfl rfl ?_; refine DR.step (Qt.yes rfl rfl rfl (q_moveC rfl rfl rfl)) rfl rfl ?_
              refine DR.step (Qt.yes rfl rfl rfl (q_sub rfl rfl rfl rfl (by omega))) rfl rfl ?_; refine DR.step (Qt.yes rfl rfl rfl (q_call0 rfl rfl (h2) rfl)) rfl rfl ?_
              refine DR.step (Qt.yes rfl rfl rfl (q_not rfl rfl rfl)) rfl rfl ?_; refine DR.step (q_pickF rfl rfl rfl rfl) rfl rfl ?_; refine DR.step (q_moveC rfl rfl rfl) rfl rfl ?_
              refine DR.step (Qt.yes rfl rfl rfl (q_ldN rfl rfl rfl rfl rfl rfl)) rfl rfl ?_; refine DR.step (Qt.yes rfl rfl rfl (q_fldp rfl rfl rfl rfl (by decide))) rfl rfl ?_
              refine DR.step (Qt.yes rfl rfl rfl (q_ld1 rfl rfl rfl rfl rfl)) rfl rfl ?_; refine DR.step (Qt.yes rfl rfl rfl (q_fldp rfl rfl rfl rfl (by decide))) rfl rfl ?_
              refine DR.step (Qt.yes rfl rfl rfl (q_ld1 rfl rfl rfl rfl rfl)) rfl rfl ?_; refine DR.step (Qt.yes rfl rfl rfl (q_fldp rfl rfl rfl rfl (by decide))) rfl rfl ?_
              refine DR.step (Qt.yes rfl rfl rfl (q_ld1 rfl rfl rfl rfl rfl)) rfl rfl ?_; refine DR.step (Qt.yes rfl rfl rfl (q_call0 rfl rfl (hsz) rfl)) rfl rfl ?_
              refine DR.step (Qt.yes rfl rfl rfl (q_call0 rfl rfl (h3) rfl)) rfl rfl ?_; refine DR.step (q_pickF rfl rfl rfl rfl) rfl rfl ?_; refine DR.step (q_moveC rfl rfl rfl) rfl rfl ?_
              refine DR.step (Qt.yes rfl rfl rfl (q_fldp rfl rfl rfl rfl (by decide))) rfl rfl ?_; refine DR.step (Qt.yes rfl rfl rfl (q_ld1 rfl rfl rfl rfl rfl)) rfl rfl ?_
              refine DR.step (Qt.yes rfl rfl rfl (q_call0 rfl rfl (h4) rfl)) rfl rfl ?_; refine DR.step (Qt.yes rfl rfl rfl (q_not rfl rfl rfl)) rfl rfl ?_
              refine DR.step (q_pickF rfl rfl rfl rfl) rfl rfl ?_; refine DR.step (q_moveC rfl rfl rfl) rfl rfl ?_
              refine DR.step (Qt.yes rfl rfl rfl (q_fldp rfl rfl rfl rfl (by decide))) rfl rfl ?_; refine DR.step (Qt.yes rfl rfl rfl (q_ld1 rfl rfl rfl rfl rfl)) rfl rfl ?_
              refine DR.step (Qt.yes rfl rfl rfl (q_call0 rfl rfl (h5) rfl)) rfl rfl ?_; refine DR.step (Qt.yes rfl rfl rfl (q_not rfl rfl rfl)) rfl rfl ?_
              refine DR.step (q_pickF rfl rfl rfl rfl) rfl rfl ?_; refine DR.stop (by kernel_rfl) (by kernel_rfl) ?_
              refine L_nil ?_; refine T_n ?_; refine A_ifF rfl ?_; refine A_skip ?_; refine T_n ?_; refine A_seq ?_; refine A_seq ?_; refine A_region ?_
              refine M0 (q_fldp rfl rfl rfl rfl (by decide)) rfl rfl ?_; refine M0 (q_ld1 rfl rfl rfl rfl rfl) rfl rfl ?_; refine L_nil ?_; refine T_n ?_; refine A_block ?_; refine A_seq ?_
              refine A_region ?_; refine M0 (q_eqlK rfl rfl rfl rfl (by assumption)) rfl rfl ?_; refine M0 (q_assignC rfl rfl rfl) rfl rfl ?_; refine L_nil ?_; refine T_n ?_; refine A_ifF rfl ?_
              refine A_seq ?_; refine A_region ?_; refine M0 (q_eqlK rfl rfl rfl rfl (by assumption)) rfl rfl ?_; refine M0 (q_assignC rfl rfl rfl) rfl rfl ?_; refine L_nil ?_; refine T_n ?_
              refine A_ifF rfl ?_; refine A_skip ?_; refine B_n ?_; refine T_n ?_; refine A_seq ?_; refine A_region ?_; refine M0 (q_fldp rfl rfl rfl rfl (by decide)) rfl rfl ?_
              refine M0 (q_ld1 rfl rfl rfl rfl rfl) rfl rfl ?_; refine M0 (q_eql rfl rfl rfl rfl) rfl rfl ?_; refine M0 (q_moveC rfl rfl rfl) rfl rfl ?_
              refine M0 (Qt.grdT rfl rfl rfl .stop (fun hgrd => q_fldp rfl rfl rfl rfl (by decide))) rfl rfl ?_
              refine M0 (Qt.grdT rfl rfl rfl (.hit .stop) (fun hgrd => q_ld1 rfl rfl rfl rfl rfl)) rfl rfl ?_
              refine M0 (Qt.grdT rfl rfl rfl (.hit (.hit .stop)) (fun hgrd => q_eql rfl rfl rfl rfl)) rfl rfl ?_; refine M0 (q_and rfl rfl rfl rfl) rfl rfl ?_
              refine M0 (q_moveC rfl rfl rfl) rfl rfl ?_; refine M0 (Qt.grdT rfl rfl rfl .stop (fun hgrd => q_fldp rfl rfl rfl rfl (by decide))) rfl rfl ?_
              refine M0 (Qt.grdT rfl rfl rfl (.hit .stop) (fun hgrd => q_ld1 rfl rfl rfl rfl rfl)) rfl rfl ?_
              refine M0 (Qt.grdT rfl rfl rfl (.hit (.hit .stop)) (fun hgrd => q_eql rfl rfl rfl rfl)) rfl rfl ?_; refine M0 (q_and rfl rfl rfl rfl) rfl rfl ?_
              refine M0 (q_moveC rfl rfl rfl) rfl rfl ?_; refine M0 (Qt.grdT rfl rfl rfl .stop (fun hgrd => q_fldp rfl rfl rfl rfl (by decide))) rfl rfl ?_
              refine M0 (Qt.grdT rfl rfl rfl (.hit .stop) (fun hgrd => q_ld1 rfl rfl rfl rfl rfl)) rfl rfl ?_
              refine M0 (Qt.grdT rfl rfl rfl (.hit (.hit .stop)) (fun hgrd => q_eql rfl rfl rfl rfl)) rfl rfl ?_; refine M0 (q_and rfl rfl rfl rfl) rfl rfl ?_
              refine M0 (q_assignC rfl rfl rfl) rfl rfl ?_; refine L_nil ?_; refine T_n ?_; refine A_ret ?_; refine F_r ?_
              exact E_tmp rfl rfl (W_end [] (by decide) rfl rfl (B_eq (by rw [tailM, if_neg k0, if_neg k1]; simp only [Bool.decide_and, Bool.and_assoc])))
set_option maxHeartbeats 8000000 in
theorem I_BodyOk (l : TLevel) (n : Int) (b : TBody) (hg : Enc.gd l) (hb : Enc.gd b) (hn : 0 ≤ n ∧ n ≤ 1099511627776) : Con Try.prog 122 [] [ag l, ai n, ag b] [] (B (levelOk l && bodyM l n b)) := by
  obtain ⟨b1, b2, b3, b4, b5, b6, b7, b8, b9⟩ := hb
  have hc := I_LevelOk l hg
  cases hl : levelOk l with
  | false =>
    rw [hl] at hc
    rw [Bool.false_and]
    refine Con.of Try.func122 rfl Try.ntmps122 rfl (fun E => ?_)
    refine A_seq ?_; refine A_region ?_; refine M1 (q_boxN rfl rfl rfl rfl) rfl rfl ?_; refine M1 (q_boxN rfl rfl rfl rfl) rfl rfl ?_; refine M0 (q_assignC rfl rfl rfl) rfl rfl ?_
    refine L_nil ?_; refine T_n ?_; refine A_seq ?_; refine A_seq ?_; refine A_region ?_; refine M0 (q_ldN rfl rfl rfl rfl rfl rfl) rfl rfl ?_; refine M0 (q_call0 rfl rfl (hc) rfl) rfl rfl ?_
    refine M0 (q_not rfl rfl rfl) rfl rfl ?_; refine M0 (q_moveC rfl rfl rfl) rfl rfl ?_; refine M_no rfl rfl rfl rfl rfl rfl ?_; refine M_no rfl rfl rfl rfl rfl rfl ?_
    refine M_no rfl rfl rfl rfl rfl rfl ?_; refine M0 (q_pickT rfl rfl rfl rfl) rfl rfl ?_; refine M0 (q_moveC rfl rfl rfl) rfl rfl ?_; refine M_no rfl rfl rfl rfl rfl rfl ?_
    refine M_no rfl rfl rfl rfl rfl rfl ?_; refine M_no rfl rfl rfl rfl rfl rfl ?_; refine M0 (q_pickT rfl rfl rfl rfl) rfl rfl ?_; refine L_nil ?_; refine T_n ?_; refine A_ifT rfl ?_
    refine A_seq ?_; refine A_region ?_; refine M0 (q_assignC rfl rfl rfl) rfl rfl ?_; refine L_nil ?_; refine T_n ?_; refine A_ret ?_; refine T_r ?_; refine F_r ?_
    exact E_tmp rfl rfl (W_end [] (by decide) rfl rfl rfl)
  | true =>
    rw [hl] at hc
    rw [Bool.true_and]
    refine Con.of Try.func122 rfl Try.ntmps122 rfl (fun E => ?_)
    refine A_seq ?_; refine A_region ?_; refine M1 (q_boxN rfl rfl rfl rfl) rfl rfl ?_; refine M1 (q_boxN rfl rfl rfl rfl) rfl rfl ?_; refine M0 (q_assignC rfl rfl rfl) rfl rfl ?_
    refine L_nil ?_; refine T_n ?_; refine A_seq ?_; refine A_seq ?_; refine A_region ?_; refine M0 (q_ldN rfl rfl rfl rfl rfl rfl) rfl rfl ?_; refine M0 (q_call0 rfl rfl (hc) rfl) rfl rfl ?_
    refine M0 (q_not rfl rfl rfl) rfl rfl ?_; refine M0 (q_moveC rfl rfl rfl) rfl rfl ?_; refine M_yes rfl rfl rfl ?_; refine M0 (q_fldp rfl rfl rfl rfl (by decide)) rfl rfl ?_
    refine M_yes rfl rfl rfl ?_; refine M0 (q_ld1 rfl rfl rfl rfl rfl) rfl rfl ?_; refine M_yes rfl rfl rfl ?_; refine M0 (q_lss rfl rfl rfl rfl) rfl rfl ?_
    refine M0 (q_pickF rfl rfl rfl rfl) rfl rfl ?_; refine M0 (q_moveC rfl rfl rfl) rfl rfl ?_
    refine M0 (Qt.grdF rfl rfl rfl .stop (fun hgrd => q_fldp rfl rfl rfl rfl (by decide))) rfl rfl ?_
    refine M0 (Qt.grdF rfl rfl rfl (.hit .stop) (fun hgrd => q_ld1 rfl rfl rfl rfl rfl)) rfl rfl ?_
    refine M0 (Qt.grdF rfl rfl rfl (.hit (.hit .stop)) (fun hgrd => q_gtr rfl rfl rfl rfl)) rfl rfl ?_; refine M0 (q_or rfl rfl rfl rfl) rfl rfl ?_; refine L_nil ?_; refine T_n ?_
    refine A_cond rfl (fun h => ?_) (fun h => ?_)
    · simp only [Bool.or_eq_true, decide_eq_true_eq] at h
      have e1 : inR b.Kind 0 2 = false := by rw [← Bool.not_eq_true, inR_iff]; omega
      rw [show bodyM l n b = false by rw [bodyM, e1]; rfl]
      refine A_seq ?_; refine A_region ?_; refine M0 (q_assignC rfl rfl rfl) rfl rfl ?_; refine L_nil ?_; refine T_n ?_; refine A_ret ?_; refine T_r ?_; refine F_r ?_
      exact E_tmp rfl rfl (W_end [] (by decide) rfl rfl rfl)
    simp only [Bool.or_eq_false_iff, decide_eq_false_iff_not] at h
    have e1 : inR b.Kind 0 2 = true := inR_iff.2 (by omega)
    have hs16 := size_in e1
    refine A_skip ?_; refine T_n ?_; refine A_seq ?_; refine A_seq ?_; refine A_region ?_; refine M0 (q_fldp rfl rfl rfl rfl (by decide)) rfl rfl ?_
    refine M0 (q_ld1 rfl rfl rfl rfl rfl) rfl rfl ?_; refine M0 (q_lss rfl rfl rfl rfl) rfl rfl ?_; refine M0 (q_moveC rfl rfl rfl) rfl rfl ?_
    refine M0 (Qt.grdF rfl rfl rfl .stop (fun hgrd => q_fldp rfl rfl rfl rfl (by decide))) rfl rfl ?_
    refine M0 (Qt.grdF rfl rfl rfl (.hit .stop) (fun hgrd => q_ld1 rfl rfl rfl rfl rfl)) rfl rfl ?_
    refine M0 (Qt.grdF rfl rfl rfl (.hit (.hit .stop)) (fun hgrd => q_moveC rfl rfl rfl)) rfl rfl ?_
    refine M0 (Qt.grdF rfl rfl rfl (.hit (.hit (.hit .stop))) (fun hgrd => q_geq rfl rfl rfl rfl)) rfl rfl ?_; refine M0 (q_or rfl rfl rfl rfl) rfl rfl ?_
    refine M0 (q_moveC rfl rfl rfl) rfl rfl ?_; refine M0 (Qt.grdF rfl rfl rfl .stop (fun hgrd => q_fldp rfl rfl rfl rfl (by decide))) rfl rfl ?_
    refine M0 (Qt.grdF rfl rfl rfl (.hit .stop) (fun hgrd => q_ld1 rfl rfl rfl rfl rfl)) rfl rfl ?_
    refine M0 (Qt.grdF rfl rfl rfl (.hit (.hit .stop)) (fun hgrd => q_eql rfl rfl rfl rfl)) rfl rfl ?_
    refine M0 (Qt.grdF rfl rfl rfl (.hit (.hit (.hit .stop))) (fun hgrd => q_moveC rfl rfl rfl)) rfl rfl ?_
    refine M0 (Qt.grd2T rfl rfl rfl (.hit1 (.hit1 (.hit1 (.hit1 .stop)))) (fun hgrd hgrd2 => q_fldp rfl rfl rfl rfl (by decide))) rfl rfl ?_
    refine M0 (Qt.grd2T rfl rfl rfl (.hit (.hit1 (.hit1 (.hit1 (.hit1 .stop))))) (fun hgrd hgrd2 => q_ld1 rfl rfl rfl rfl rfl)) rfl rfl ?_
    refine M0 (Qt.grd2T rfl rfl rfl (.hit (.hit (.hit1 (.hit1 (.hit1 (.hit1 .stop)))))) (fun hgrd hgrd2 => q_neq rfl rfl rfl rfl)) rfl rfl ?_
    refine M0 (Qt.grdF rfl rfl rfl (.part (.part (.part (.hit (.hit (.hit (.hit .stop))))))) (fun hgrd => q_and rfl rfl rfl rfl)) rfl rfl ?_; refine M0 (q_or rfl rfl rfl rfl) rfl rfl ?_
    refine L_nil ?_; refine T_n ?_
    refine A_cond rfl (fun h2 => ?_) (fun h2 => ?_)
    · simp only [Bool.or_eq_true, Bool.and_eq_true, decide_eq_true_eq] at h2
      rw [show bodyM l n b = false by
        by_cases ho : 0 ≤ b.Owner ∧ b.Owner ≤ n - 1
        · have hk : b.Kind = 2 ∧ b.Owner ≠ 0 := by omega
          have ht : tailM b = false := by rw [tailM, if_neg (by omega), if_neg (by omega), decide_eq_false (fun hh => hk.2 hh.1)]
          rw [bodyM, ht]; simp
        · have e2 : inR b.Owner 0 (n - 1) = false := by rw [← Bool.not_eq_true, inR_iff]; exact ho
          rw [bodyM, e2]; simp]
      refine A_seq ?_; refine A_region ?_; refine M0 (q_assignC rfl rfl rfl) rfl rfl ?_; refine L_nil ?_; refine T_n ?_; refine A_ret ?_; refine T_r ?_; refine F_r ?_
      exact E_tmp rfl rfl (W_end [] (by decide) rfl rfl rfl)
    simp only [Bool.or_eq_false_iff, Bool.and_eq_false_iff, decide_eq_false_iff_not] at h2
    have e2 : inR b.Owner 0 (n - 1) = true := inR_iff.2 (by omega)
    have hsz := I_SizeOf b.Kind
    have h3 := I_SolidAt l b.X b.Y (sizeOf b.Kind) hg b3 b4
    rw [show solidAt l b.X b.Y (sizeOf b.Kind) = solidM l b.X b.Y (sizeOf b.Kind) by rw [solidAt, hl, inR_iff.2 hs16]; rfl] at h3
    cases e3 : solidM l b.X b.Y (sizeOf b.Kind) with
    | true =>
      rw [e3] at h3
      rw [show bodyM l n b = false by rw [bodyM, e1, e2, e3]; rfl]
      refine A_skip ?_; refine T_n ?_; refine A_seq ?_; refine A_seq ?_
      refine A_draw [[], [], [1], [], [3], [], [5], [5, 6], [0, 1, 2, 3, 4, 5, 6, 7]] [[], [], [40], [], [42], [], [44], [44, 45], [39, 40, 41, 42, 43, 44, 45, 46]] [[40, 41, 42, 43, 44, 45, 46], [39, 42, 43, 44, 45, 46], [39, 42, 43, 44, 45, 46], [39, 40, 41, 44, 45, 46], [39, 40, 41, 44, 45, 46], [39, 40, 41, 42, 43], [39, 40, 41, 42, 43], [39, 40, 41, 42, 43], []] rfl ?_
      refine DR.step (q_ldN rfl rfl rfl rfl rfl rfl) rfl rfl ?_; refine DR.step (q_fldp rfl rfl rfl rfl (by decide)) rfl rfl ?_; refine DR.step (q_ld1 rfl rfl rfl rfl rfl) rfl rfl ?_
      refine DR.step (q_fldp rfl rfl rfl rfl (by decide)) rfl rfl ?_; refine DR.step (q_ld1 rfl rfl rfl rfl rfl) rfl rfl ?_; refine DR.step (q_fldp rfl rfl rfl rfl (by decide)) rfl rfl ?_
      refine DR.step (q_ld1 rfl rfl rfl rfl rfl) rfl rfl ?_; refine DR.step (q_call0 rfl rfl (hsz) rfl) rfl rfl ?_; refine DR.step (q_call0 rfl rfl (h3) rfl) rfl rfl ?_
      refine DR.stop (by kernel_rfl) (by kernel_rfl) ?_
      refine L_nil ?_; refine T_n ?_; refine A_ifT rfl ?_; refine A_seq ?_; refine A_region ?_; refine M0 (q_assignC rfl rfl rfl) rfl rfl ?_; refine L_nil ?_; refine T_n ?_; refine A_ret ?_; refine T_r ?_
      refine F_r ?_
      exact E_tmp rfl rfl (W_end [] (by decide) rfl rfl rfl)
    | false =>
      rw [e3] at h3
      refine A_skip ?_; refine T_n ?_; refine A_seq ?_; refine A_seq ?_
      refine A_draw [[], [], [1], [], [3], [], [5], [5, 6], [0, 1, 2, 3, 4, 5, 6, 7]] [[], [], [40], [], [42], [], [44], [44, 45], [39, 40, 41, 42, 43, 44, 45, 46]] [[40, 41, 42, 43, 44, 45, 46], [39, 42, 43, 44, 45, 46], [39, 42, 43, 44, 45, 46], [39, 40, 41, 44, 45, 46], [39, 40, 41, 44, 45, 46], [39, 40, 41, 42, 43], [39, 40, 41, 42, 43], [39, 40, 41, 42, 43], []] rfl ?_
      refine DR.step (q_ldN rfl rfl rfl rfl rfl rfl) rfl rfl ?_; refine DR.step (q_fldp rfl rfl rfl rfl (by decide)) rfl rfl ?_; refine DR.step (q_ld1 rfl rfl rfl rfl rfl) rfl rfl ?_
      refine DR.step (q_fldp rfl rfl rfl rfl (by decide)) rfl rfl ?_; refine DR.step (q_ld1 rfl rfl rfl rfl rfl) rfl rfl ?_; refine DR.step (q_fldp rfl rfl rfl rfl (by decide)) rfl rfl ?_
      refine DR.step (q_ld1 rfl rfl rfl rfl rfl) rfl rfl ?_; refine DR.step (q_call0 rfl rfl (hsz) rfl) rfl rfl ?_; refine DR.step (q_call0 rfl rfl (h3) rfl) rfl rfl ?_
      refine DR.stop (by kernel_rfl) (by kernel_rfl) ?_
      refine L_nil ?_; refine T_n ?_; refine A_ifF rfl ?_; refine A_skip ?_; refine T_n ?_; refine A_seq ?_; refine A_seq ?_; refine A_region ?_
      refine M0 (q_fldp rfl rfl rfl rfl (by decide)) rfl rfl ?_; refine M0 (q_ld1 rfl rfl rfl rfl rfl) rfl rfl ?_; refine M0 (q_call0 rfl rfl (I_between b.VX (-15) 15) rfl) rfl rfl ?_
      refine M0 (q_not rfl rfl rfl) rfl rfl ?_; refine M0 (q_moveC rfl rfl rfl) rfl rfl ?_; refine M0 (Qt.grdF rfl rfl rfl .stop (fun hgrd => q_fldp rfl rfl rfl rfl (by decide))) rfl rfl ?_
      refine M0 (Qt.grdF rfl rfl rfl (.hit .stop) (fun hgrd => q_ld1 rfl rfl rfl rfl rfl)) rfl rfl ?_
      refine M0 (Qt.grdF rfl rfl rfl (.hit (.hit .stop)) (fun hgrd => q_call0 rfl rfl (I_between b.VY (-15) 15) rfl)) rfl rfl ?_
      refine M0 (Qt.grdF rfl rfl rfl (.hit (.hit (.hit .stop))) (fun hgrd => q_not rfl rfl rfl)) rfl rfl ?_; refine M0 (q_or rfl rfl rfl rfl) rfl rfl ?_; refine L_nil ?_; refine T_n ?_
      refine A_cond rfl (fun h4 => ?_) (fun h4 => ?_)
      · simp only [Bool.or_eq_true, Bool.not_eq_true'] at h4
        rw [show bodyM l n b = false by rw [bodyM]; rcases h4 with h4 | h4 <;> rw [h4] <;> simp]
        refine A_seq ?_; refine A_region ?_; refine M0 (q_assignC rfl rfl rfl) rfl rfl ?_; refine L_nil ?_; refine T_n ?_; refine A_ret ?_; refine T_r ?_; refine F_r ?_
        exact E_tmp rfl rfl (W_end [] (by decide) rfl rfl rfl)
      simp only [Bool.or_eq_false_iff, Bool.not_eq_false'] at h4
      rw [show bodyM l n b = tailM b by rw [bodyM, e1, e2, e3, h4.1, h4.2]; rfl]
      by_cases k0 : b.Kind = 0
      · have hk : decide (b.Kind = 0) = true := decide_eq_true k0
        refine A_skip ?_; refine T_n ?_; refine A_seq ?_; refine A_seq ?_; refine A_region ?_; refine M0 (q_fldp rfl rfl rfl rfl (by decide)) rfl rfl ?_
        refine M0 (q_ld1 rfl rfl rfl rfl rfl) rfl rfl ?_; refine M0 (q_eqlK rfl rfl rfl rfl (by assumption)) rfl rfl ?_; refine L_nil ?_; refine T_n ?_; refine A_ifT rfl ?_; refine A_seq ?_
        refine A_seq ?_; refine A_region ?_; refine M0 (q_fldp rfl rfl rfl rfl (by decide)) rfl rfl ?_; refine M0 (q_ld1 rfl rfl rfl rfl rfl) rfl rfl ?_
        refine M0 (q_neq rfl rfl rfl rfl) rfl rfl ?_; refine M0 (q_moveC rfl rfl rfl) rfl rfl ?_
        refine M0 (Qt.grdT rfl rfl rfl .stop (fun hgrd => q_fldp rfl rfl rfl rfl (by decide))) rfl rfl ?_
        refine M0 (Qt.grdT rfl rfl rfl (.hit .stop) (fun hgrd => q_ld1 rfl rfl rfl rfl rfl)) rfl rfl ?_
        refine M0 (Qt.grdT rfl rfl rfl (.hit (.hit .stop)) (fun hgrd => q_neq rfl rfl rfl rfl)) rfl rfl ?_; refine M0 (q_and rfl rfl rfl rfl) rfl rfl ?_
        refine M0 (q_moveC rfl rfl rfl) rfl rfl ?_; refine M0 (Qt.grdF rfl rfl rfl .stop (fun hgrd => q_fldp rfl rfl rfl rfl (by decide))) rfl rfl ?_
        refine M0 (Qt.grdF rfl rfl rfl (.hit .stop) (fun hgrd => q_ld1 rfl rfl rfl rfl rfl)) rfl rfl ?_
        refine M0 (Qt.grdF rfl rfl rfl (.hit (.hit .stop)) (fun hgrd => q_call0 rfl rfl (I_between b.Life 0 3) rfl)) rfl rfl ?_
        refine M0 (Qt.grdF rfl rfl rfl (.hit (.hit (.hit .stop))) (fun hgrd => q_not rfl rfl rfl)) rfl rfl ?_; refine M0 (q_or rfl rfl rfl rfl) rfl rfl ?_; refine L_nil ?_; refine T_n ?_
        refine A_cond rfl (fun h => ?_) (fun h => ?_)
        · rw [show tailM b = false by
            rw [tailM, if_pos k0]
            simp only [Bool.or_eq_true, Bool.and_eq_true, decide_eq_true_eq, Bool.not_eq_true'] at h
            rcases h with h | h
            · rw [decide_eq_false (by omega)]; rfl
            · rw [h]; simp]
          refine A_seq ?_; refine A_region ?_; refine M0 (q_assignC rfl rfl rfl) rfl rfl ?_; refine L_nil ?_; refine T_n ?_; refine A_ret ?_; refine T_r ?_; refine T_r ?_; refine F_r ?_
          exact E_tmp rfl rfl (W_end [] (by decide) rfl rfl rfl)
        simp only [Bool.or_eq_false_iff, Bool.and_eq_false_iff, decide_eq_false_iff_not, Bool.not_eq_false'] at h
        have hlf := inR_iff.1 h.2
        have ht : tailM b = if b.Life = 0 then inR b.Timer 1 20 else inR b.Timer 0 12 := by
          rw [tailM, if_pos k0, decide_eq_true (by omega), h.2]; rfl
        by_cases l0 : b.Life = 0
        · have hk2 : decide (0 < b.Life) = false := decide_eq_false (by omega)
          rw [ht, if_pos l0]
          refine A_skip ?_; refine T_n ?_; refine A_seq ?_; refine A_seq ?_; refine A_region ?_; refine M0 (q_fldp rfl rfl rfl rfl (by decide)) rfl rfl ?_
          refine M0 (q_ld1 rfl rfl rfl rfl rfl) rfl rfl ?_; refine M0 (q_gtrK rfl rfl rfl rfl (by assumption)) rfl rfl ?_; refine L_nil ?_; refine T_n ?_; refine A_ifF rfl ?_; refine A_skip ?_
          refine T_n ?_; refine A_seq ?_; refine A_region ?_; refine M0 (q_fldp rfl rfl rfl rfl (by decide)) rfl rfl ?_; refine M0 (q_ld1 rfl rfl rfl rfl rfl) rfl rfl ?_
          refine M0 (q_call0 rfl rfl (I_between b.Timer 1 20) rfl) rfl rfl ?_; refine M0 (q_assignC rfl rfl rfl) rfl rfl ?_; refine L_nil ?_; refine T_n ?_; refine A_ret ?_; refine T_r ?_; refine F_r ?_
          exact E_tmp rfl rfl (W_end [] (by decide) rfl rfl rfl)
        · have hk2 : decide (0 < b.Life) = true := decide_eq_true (by omega)
          rw [ht, if_neg l0]
          refine A_skip ?_; refine T_n ?_; refine A_seq ?_; refine A_seq ?_; refine A_region ?_; refine M0 (q_fldp rfl rfl rfl rfl (by decide)) rfl rfl ?_
          refine M0 (q_ld1 rfl rfl rfl rfl rfl) rfl rfl ?_; refine M0 (q_gtrK rfl rfl rfl rfl (by assumption)) rfl rfl ?_; refine L_nil ?_; refine T_n ?_; refine A_ifT rfl ?_; refine A_seq ?_
          refine A_region ?_; refine M0 (q_fldp rfl rfl rfl rfl (by decide)) rfl rfl ?_; refine M0 (q_ld1 rfl rfl rfl rfl rfl) rfl rfl ?_
          refine M0 (q_call0 rfl rfl (I_between b.Timer 0 12) rfl) rfl rfl ?_; refine M0 (q_assignC rfl rfl rfl) rfl rfl ?_; refine L_nil ?_; refine T_n ?_; refine A_ret ?_; refine T_r ?_; refine T_r ?_
          refine F_r ?_
          exact E_tmp rfl rfl (W_end [] (by decide) rfl rfl rfl)
      have hk : decide (b.Kind = 0) = false := decide_eq_false k0
      refine A_skip ?_; refine T_n ?_; refine A_seq ?_; refine A_seq ?_; refine A_region ?_; refine M0 (q_fldp rfl rfl rfl rfl (by decide)) rfl rfl ?_
      refine M0 (q_ld1 rfl rfl rfl rfl rfl) rfl rfl ?_; refine M0 (q_eqlK rfl rfl rfl rfl (by assumption)) rfl rfl ?_; refine L_nil ?_; refine T_n ?_; refine A_ifF rfl ?_; refine A_skip ?_
      refine T_n ?_; refine A_seq ?_; refine A_seq ?_; refine A_region ?_; refine M0 (q_fldp rfl rfl rfl rfl (by decide)) rfl rfl ?_; refine M0 (q_ld1 rfl rfl rfl rfl rfl) rfl rfl ?_
      refine M0 (q_neq rfl rfl rfl rfl) rfl rfl ?_; refine M0 (q_moveC rfl rfl rfl) rfl rfl ?_
      refine M0 (Qt.grdF rfl rfl rfl .stop (fun hgrd => q_fldp rfl rfl rfl rfl (by decide))) rfl rfl ?_
      refine M0 (Qt.grdF rfl rfl rfl (.hit .stop) (fun hgrd => q_ld1 rfl rfl rfl rfl rfl)) rfl rfl ?_
      refine M0 (Qt.grdF rfl rfl rfl (.hit (.hit .stop)) (fun hgrd => q_neq rfl rfl rfl rfl)) rfl rfl ?_; refine M0 (q_or rfl rfl rfl rfl) rfl rfl ?_; refine L_nil ?_; refine T_n ?_
      refine A_cond rfl (fun h5 => ?_) (fun h5 => ?_)
      · simp only [Bool.or_eq_true, decide_eq_true_eq] at h5
        rw [show tailM b = false by
          rw [tailM, if_neg k0]
          split
          · rw [decide_eq_false (by omega)]; rfl
          · exact decide_eq_false (by omega)]
        refine A_seq ?_; refine A_region ?_; refine M0 (q_assignC rfl rfl rfl) rfl rfl ?_; refine L_nil ?_; refine T_n ?_; refine A_ret ?_; refine T_r ?_; refine F_r ?_
        exact E_tmp rfl rfl (W_end [] (by decide) rfl rfl rfl)
      simp only [Bool.or_eq_false_iff, decide_eq_false_iff_not] at h5
      by_cases k1 : b.Kind = 1
      · have hk1 : decide (b.Kind = 1) = true := decide_eq_true k1
        rw [show tailM b = inR b.Timer 1 25 by rw [tailM, if_neg k0, if_pos k1, decide_eq_true (by omega)]; rfl]
        refine A_skip ?_; refine T_n ?_; refine A_seq ?_; refine A_seq ?_; refine A_region ?_; refine M0 (q_fldp rfl rfl rfl rfl (by decide)) rfl rfl ?_
        refine M0 (q_ld1 rfl rfl rfl rfl rfl) rfl rfl ?_; refine M0 (q_eqlK rfl rfl rfl rfl (by assumption)) rfl rfl ?_; refine L_nil ?_; refine T_n ?_; refine A_ifT rfl ?_; refine A_seq ?_
        refine A_region ?_; refine M0 (q_fldp rfl rfl rfl rfl (by decide)) rfl rfl ?_; refine M0 (q_ld1 rfl rfl rfl rfl rfl) rfl rfl ?_
        refine M0 (q_call0 rfl rfl (I_between b.Timer 1 25) rfl) rfl rfl ?_; refine M0 (q_assignC rfl rfl rfl) rfl rfl ?_; refine L_nil ?_; refine T_n ?_; refine A_ret ?_; refine T_r ?_; refine F_r ?_
        exact E_tmp rfl rfl (W_end [] (by decide) rfl rfl rfl)
      · have hk1 : decide (b.Kind = 1) = false := decide_eq_false k1
        rw [show tailM b = decide (b.Timer = 0) by rw [tailM, if_neg k0, if_neg k1]; exact decide_eq_decide.2 (by omega)]
        refine A_skip ?_; refine T_n ?_; refine A_seq ?_; refine A_seq ?_; refine A_region ?_; refine M0 (q_fldp rfl rfl rfl rfl (by decide)) rfl rfl ?_
        refine M0 (q_ld1 rfl rfl rfl rfl rfl) rfl rfl ?_; refine M0 (q_eqlK rfl rfl rfl rfl (by assumption)) rfl rfl ?_; refine L_nil ?_; refine T_n ?_; refine A_ifF rfl ?_; refine A_skip ?_
        refine T_n ?_; refine A_seq ?_; refine A_region ?_; refine M0 (q_fldp rfl rfl rfl rfl (by decide)) rfl rfl ?_; refine M0 (q_ld1 rfl rfl rfl rfl rfl) rfl rfl ?_
        refine M0 (q_eql rfl rfl rfl rfl) rfl rfl ?_; refine M0 (q_assignC rfl rfl rfl) rfl rfl ?_; refine L_nil ?_; refine T_n ?_; refine A_ret ?_; refine F_r ?_
        exact E_tmp rfl rfl (W_end [] (by decide) rfl rfl rfl)
end Go.Proofs.Ytbpebmolbdplmaa
end
