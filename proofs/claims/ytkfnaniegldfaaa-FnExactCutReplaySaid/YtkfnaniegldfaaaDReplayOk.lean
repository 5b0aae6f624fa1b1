/-
  What a valid replay is, in the program and in the reference.
  Conditions: none.
-/
import Derived.Test.YtkfnaniegldfaaaDLevelI
import Derived.Test.YtkfnaniegldfaaaDLevelS
set_option linter.unusedSimpArgs false
set_option linter.unusedVariables false
namespace Go.Proofs.Ytkfnaniegldfaaa
open Go.RowKit

def replayOk (r : TReplay) : Bool := levelOk r.Level && inR r.Players 1 4 && inR r.Seed 0 65535 && inR r.Every 1 100 && decide (r.Rows.length ≤ 400) && (r.Rows.all fun row => rowOk row r.Players) && decide ((r.Keys.length : Int) = (r.Rows.length : Int) / r.Every)
theorem replay_no {r : TReplay} (h : ((!levelOk r.Level || !inR r.Players 1 4) || !inR r.Seed 0 65535) = true ∨ ((!inR r.Every 1 100) || decide (400 < (r.Rows.length : Int))) = true ∨ (r.Rows.all fun row => rowOk row r.Players) = false) : replayOk r = false := by
  unfold replayOk
  rcases h with h | h | h
  · simp only [Bool.or_eq_true, Bool.not_eq_true'] at h
    rcases h with (h | h) | h <;> simp [h]
  · simp only [Bool.or_eq_true, Bool.not_eq_true', decide_eq_true_eq] at h
    rcases h with h | h
    · simp [h]
    · simp [show ¬ r.Rows.length ≤ 400 by omega]
  · simp [h]
theorem replay_yes {r : TReplay} (h1 : ((!levelOk r.Level || !inR r.Players 1 4) || !inR r.Seed 0 65535) = false) (h2 : ((!inR r.Every 1 100) || decide (400 < (r.Rows.length : Int))) = false) (h3 : (r.Rows.all fun row => rowOk row r.Players) = true) : replayOk r = decide ((r.Keys.length : Int) = (r.Rows.length : Int) / r.Every) := by
  simp only [Bool.or_eq_false_iff, Bool.not_eq_false', decide_eq_false_iff_not] at h1 h2
  unfold replayOk
  rw [h3]
  simp [h1, h2, show r.Rows.length ≤ 400 by omega]

set_option maxHeartbeats 4000000 in
theorem I_ReplayOk (x : TReplay) (hg : Enc.gd x) : Con Try.prog 46 [] [ag x] [] (B (replayOk x)) := by
  obtain ⟨g_Level, g_Players, g_Seed, g_Every, g_Rows, g_Keys⟩ := hg
  have g1 := g_Rows.1
  have g2 := g_Keys.1
  have hlr := els_len x.Rows
  have hlk := els_len x.Keys
  have cl := I_LevelOk x.Level g_Level
  refine Con.of Try.func46 rfl Try.ntmps46 rfl (fun E => ?_)
  refine A_seq ?_; refine A_region ?_; refine M1 (q_boxN rfl rfl rfl rfl) rfl rfl ?_; refine M0 (q_assignC rfl rfl rfl) rfl rfl ?_; refine L_nil ?_; refine T_n ?_; refine A_seq ?_; refine A_seq ?_
  refine A_region ?_; refine M0 (q_fldp rfl rfl rfl rfl (by decide)) rfl rfl ?_; refine M0 (q_ldN rfl rfl rfl rfl rfl rfl) rfl rfl ?_; refine M0 (q_call0 rfl rfl (cl) rfl) rfl rfl ?_
  refine M0 (q_not rfl rfl rfl) rfl rfl ?_; refine M0 (q_moveC rfl rfl rfl) rfl rfl ?_; refine M0 (Qt.grdF rfl rfl rfl .stop (fun hgrd => q_fldp rfl rfl rfl rfl (by decide))) rfl rfl ?_
  refine M0 (Qt.grdF rfl rfl rfl (.hit .stop) (fun hgrd => q_ld1 rfl rfl rfl rfl rfl)) rfl rfl ?_
  refine M0 (Qt.grdF rfl rfl rfl (.hit (.hit .stop)) (fun hgrd => q_call0 rfl rfl (I_between x.Players 1 4) rfl)) rfl rfl ?_
  refine M0 (Qt.grdF rfl rfl rfl (.hit (.hit (.hit .stop))) (fun hgrd => q_not rfl rfl rfl)) rfl rfl ?_; refine M0 (q_or rfl rfl rfl rfl) rfl rfl ?_
  refine M0 (q_moveC rfl rfl rfl) rfl rfl ?_; refine M0 (Qt.grdF rfl rfl rfl .stop (fun hgrd => q_fldp rfl rfl rfl rfl (by decide))) rfl rfl ?_
  refine M0 (Qt.grdF rfl rfl rfl (.hit .stop) (fun hgrd => q_ld1 rfl rfl rfl rfl rfl)) rfl rfl ?_
  refine M0 (Qt.grdF rfl rfl rfl (.hit (.hit .stop)) (fun hgrd => q_call0 rfl rfl (I_between x.Seed 0 65535) rfl)) rfl rfl ?_
  refine M0 (Qt.grdF rfl rfl rfl (.hit (.hit (.hit .stop))) (fun hgrd => q_not rfl rfl rfl)) rfl rfl ?_; refine M0 (q_or rfl rfl rfl rfl) rfl rfl ?_; refine L_nil ?_; refine T_n ?_
  refine A_cond rfl (fun h1 => ?_) (fun h1 => ?_)
  · refine A_seq ?_; refine A_region ?_; refine M0 (q_assignC rfl rfl rfl) rfl rfl ?_; refine L_nil ?_; refine T_n ?_; refine A_ret ?_; refine T_r ?_; refine F_r ?_
    exact E_tmp rfl rfl (W_end [] (by decide) rfl rfl (B_eq (replay_no (.inl h1)).symm))
  refine AWP.pre (st' := (⟨_, [(1, .o (.c (.ptr 0 0)))], [.box ((Enc.e x).map (V1.rd []))]⟩ : St)) ?_ (W_go [0] (by decide) rfl (rfl) (.cons rfl (.nil)))
  refine A_skip ?_; refine T_n ?_; refine A_seq ?_; refine A_seq ?_; refine A_region ?_; refine M0 (q_fldp rfl rfl rfl rfl (by decide)) rfl rfl ?_
  refine M0 (q_ld1 rfl rfl rfl rfl rfl) rfl rfl ?_; refine M0 (q_call0 rfl rfl (I_between x.Every 1 100) rfl) rfl rfl ?_; refine M0 (q_not rfl rfl rfl) rfl rfl ?_
  refine M0 (q_moveC rfl rfl rfl) rfl rfl ?_; refine M0 (Qt.grdF rfl rfl rfl .stop (fun hgrd => q_fldp rfl rfl rfl rfl (by decide))) rfl rfl ?_
  refine M0 (Qt.grdF rfl rfl rfl (.hit .stop) (fun hgrd => q_ld1 rfl rfl rfl rfl rfl)) rfl rfl ?_
  refine M0 (Qt.grdF rfl rfl rfl (.hit (.hit .stop)) (fun hgrd => q_len rfl rfl rfl)) rfl rfl ?_
  refine M0 (Qt.grdF rfl rfl rfl (.hit (.hit (.hit .stop))) (fun hgrd => q_gtr rfl rfl rfl rfl)) rfl rfl ?_; refine M0 (q_or rfl rfl rfl rfl) rfl rfl ?_; refine L_nil ?_; refine T_n ?_
  refine A_cond rfl (fun h2 => ?_) (fun h2 => ?_)
  · refine A_seq ?_; refine A_region ?_; refine M0 (q_assignC rfl rfl rfl) rfl rfl ?_; refine L_nil ?_; refine T_n ?_; refine A_ret ?_; refine T_r ?_; refine F_r ?_
    exact E_tmp rfl rfl (W_end [] (by decide) rfl rfl (B_eq (replay_no (.inr (.inl (by rwa [hlr] at h2)))).symm))
  rw [hlr] at h2
  have hE : 1 ≤ x.Every := by
    simp only [Bool.or_eq_false_iff, Bool.not_eq_false', inR_iff] at h2
    exact h2.1.1
  refine A_skip ?_; refine T_n ?_; refine A_seq ?_; refine A_seq ?_; refine A_region ?_; refine M0 (q_fldp rfl rfl rfl rfl (by decide)) rfl rfl ?_
  refine M0 (q_ld1 rfl rfl rfl rfl rfl) rfl rfl ?_; refine M0 (q_len rfl rfl rfl) rfl rfl ?_; refine M0 (q_moveC rfl rfl rfl) rfl rfl ?_; refine L_nil ?_; refine T_n ?_; refine A_block ?_
  refine A_loop (fun m st => ∃ k : Nat, k + m = x.Rows.length ∧ ((x.Rows.take k).all (fun row => rowOk row x.Players) = true) ∧ st = (fun k : Nat => (⟨_, [(1, .o (.c (.ptr 0 0))), (32, L x.Rows), (33, I (els x.Rows).length), (34, I k)], [.box ((Enc.e x).map (V1.rd []))]⟩ : St)) k) (x.Rows.length) ⟨(fun k : Nat => (⟨_, [(1, .o (.c (.ptr 0 0))), (32, L x.Rows), (33, I (els x.Rows).length), (34, I k)], [.box ((Enc.e x).map (V1.rd []))]⟩ : St)) 0, W_go [0] (by decide) rfl (rfl) (.cons rfl (.cons rfl (.cons rfl (.cons rfl (.nil))))), 0, by omega, by simp, rfl⟩ ?_
  rintro m_A _ ⟨k, hk_A, hp_A, rfl⟩
  refine A_seq ?_; refine A_region ?_; refine M0 (q_lss rfl rfl rfl rfl) rfl rfl ?_; refine L_nil ?_; refine T_n ?_; refine A_seq ?_
  refine A_cond rfl (fun h => ?_) (fun h => ?_)
  · have h3 : k < x.Rows.length := by have := of_decide_eq_true h; omega
    have hat := els_at h3
    have hc := I_rowOk x.Rows[k] x.Players (g_Rows.2 _ (List.getElem_mem h3))
    refine A_skip ?_; refine T_n ?_; refine A_seq ?_; refine A_block ?_; refine A_seq ?_; refine A_region ?_; refine M0 (q_at rfl rfl rfl rfl (by omega) (by assumption) rfl) rfl rfl ?_
    refine M0 (q_lr1 rfl rfl rfl rfl) rfl rfl ?_; refine M0 (q_assignC rfl rfl rfl) rfl rfl ?_; refine L_nil ?_; refine T_n ?_; refine A_seq ?_; refine A_region ?_
    refine M0 (q_moveC rfl rfl rfl) rfl rfl ?_; refine M0 (q_fldp rfl rfl rfl rfl (by decide)) rfl rfl ?_; refine M0 (q_ld1 rfl rfl rfl rfl rfl) rfl rfl ?_
    refine M0 (q_call0 rfl rfl (hc) rfl) rfl rfl ?_; refine M0 (q_not rfl rfl rfl) rfl rfl ?_; refine L_nil ?_; refine T_n ?_
    refine A_cond rfl (fun h4 => ?_) (fun h4 => ?_)
    · refine A_seq ?_; refine A_region ?_; refine M0 (q_assignC rfl rfl rfl) rfl rfl ?_; refine L_nil ?_; refine T_n ?_; refine A_ret ?_; refine B_r ?_; refine T_r ?_; refine T_r ?_; refine B_r ?_
      refine T_r ?_; refine F_r ?_
      exact E_tmp rfl rfl (W_end [] (by decide) rfl rfl (B_eq (replay_no (.inr (.inr (all_no h3 (by simpa using h4))))).symm))
    · refine A_skip ?_; refine B_n ?_; refine T_n ?_; refine A_region ?_; refine M0 (q_add rfl rfl rfl rfl (by omega)) rfl rfl ?_; refine M0 (q_moveC rfl rfl rfl) rfl rfl ?_; refine L_nil ?_
      refine T_n ?_
      exact ⟨x.Rows.length - (k + 1), by omega, (fun k : Nat => (⟨_, [(1, .o (.c (.ptr 0 0))), (32, L x.Rows), (33, I (els x.Rows).length), (34, I k)], [.box ((Enc.e x).map (V1.rd []))]⟩ : St)) (k + 1), W_go [0] (by decide) rfl (rfl) (.cons rfl (.cons rfl (.cons rfl (.cons rfl (.nil))))), k + 1, by omega, all_next hp_A h3 (by simpa using h4), rfl⟩
  · have h3 : ¬ ((k : Int) < (els x.Rows).length) := of_decide_eq_false h
    refine A_exit ?_; refine T_x ?_; refine T_x ?_; refine B_xs ?_; refine T_n ?_; refine A_seq ?_
    refine A_draw [[], [0], [0, 1], [], [3], [3, 4], [], [6], [3, 4, 5, 6, 7], [0, 1, 2, 3, 4, 5, 6, 7, 8], [0, 1, 2, 3, 4, 5, 6, 7, 8, 9]] [[], [44], [44, 45], [], [47], [47, 48], [], [50], [47, 48, 49, 50, 51], [44, 45, 46, 47, 48, 49, 50, 51, 52], [44, 45, 46, 47, 48, 49, 50, 51, 52, 53]] [[47, 48, 49, 50, 51, 52], [47, 48, 49, 50, 51, 52], [47, 48, 49, 50, 51, 52], [44, 45, 46, 50, 51], [44, 45, 46, 50, 51], [44, 45, 46, 50, 51], [44, 45, 46, 47, 48, 49], [44, 45, 46, 47, 48, 49], [44, 45, 46], [], []] rfl ?_
    refine DR.step (q_fldp rfl rfl rfl rfl (by decide)) rfl rfl ?_; refine DR.step (q_ld1 rfl rfl rfl rfl rfl) rfl rfl ?_; refine DR.step (q_len rfl rfl rfl) rfl rfl ?_
    refine DR.step (q_fldp rfl rfl rfl rfl (by decide)) rfl rfl ?_; refine DR.step (q_ld1 rfl rfl rfl rfl rfl) rfl rfl ?_; refine DR.step (q_len rfl rfl rfl) rfl rfl ?_
    refine DR.step (q_fldp rfl rfl rfl rfl (by decide)) rfl rfl ?_; refine DR.step (q_ld1 rfl rfl rfl rfl rfl) rfl rfl ?_; refine DR.step (q_quo rfl rfl rfl rfl (by omega)) rfl rfl ?_
    refine DR.step (q_eql rfl rfl rfl rfl) rfl rfl ?_; refine DR.step (q_assignC rfl rfl rfl) rfl rfl ?_; refine DR.stop (by kernel_rfl) (by kernel_rfl) ?_
    refine L_nil ?_; refine T_n ?_; refine A_ret ?_; refine F_r ?_
    exact E_tmp rfl rfl (W_end [] (by decide) rfl rfl (B_eq (by rw [replay_yes h1 h2 (all_end hp_A (by omega)), hlr, hlk])))
set_option maxHeartbeats 4000000 in
theorem S_ReplayOk (x : TReplay) (hg : Enc.gd x) : Con Try.prog 41 [] [ag x] [] (B (replayOk x)) := by
  obtain ⟨g_Level, g_Players, g_Seed, g_Every, g_Rows, g_Keys⟩ := hg
  have g1 := g_Rows.1
  have g2 := g_Keys.1
  have hlr := els_len x.Rows
  have hlk := els_len x.Keys
  have cl := S_LevelOk x.Level g_Level
  refine Con.of Try.func41 rfl Try.ntmps41 rfl (fun E => ?_)
  refine A_seq ?_; refine A_region ?_; refine M1 (q_boxN rfl rfl rfl rfl) rfl rfl ?_; refine M0 (q_assignC rfl rfl rfl) rfl rfl ?_; refine L_nil ?_; refine T_n ?_; refine A_seq ?_; refine A_seq ?_
  refine A_region ?_; refine M0 (q_fldp rfl rfl rfl rfl (by decide)) rfl rfl ?_; refine M0 (q_ldN rfl rfl rfl rfl rfl rfl) rfl rfl ?_; refine M0 (q_call0 rfl rfl (cl) rfl) rfl rfl ?_
  refine M0 (q_not rfl rfl rfl) rfl rfl ?_; refine M0 (q_moveC rfl rfl rfl) rfl rfl ?_; refine M0 (Qt.grdF rfl rfl rfl .stop (fun hgrd => q_fldp rfl rfl rfl rfl (by decide))) rfl rfl ?_
  refine M0 (Qt.grdF rfl rfl rfl (.hit .stop) (fun hgrd => q_ld1 rfl rfl rfl rfl rfl)) rfl rfl ?_
  refine M0 (Qt.grdF rfl rfl rfl (.hit (.hit .stop)) (fun hgrd => q_call0 rfl rfl (S_in x.Players 1 4) rfl)) rfl rfl ?_
  refine M0 (Qt.grdF rfl rfl rfl (.hit (.hit (.hit .stop))) (fun hgrd => q_not rfl rfl rfl)) rfl rfl ?_; refine M0 (q_or rfl rfl rfl rfl) rfl rfl ?_
  refine M0 (q_moveC rfl rfl rfl) rfl rfl ?_; refine M0 (Qt.grdF rfl rfl rfl .stop (fun hgrd => q_fldp rfl rfl rfl rfl (by decide))) rfl rfl ?_
  refine M0 (Qt.grdF rfl rfl rfl (.hit .stop) (fun hgrd => q_ld1 rfl rfl rfl rfl rfl)) rfl rfl ?_
  refine M0 (Qt.grdF rfl rfl rfl (.hit (.hit .stop)) (fun hgrd => q_call0 rfl rfl (S_in x.Seed 0 65535) rfl)) rfl rfl ?_
  refine M0 (Qt.grdF rfl rfl rfl (.hit (.hit (.hit .stop))) (fun hgrd => q_not rfl rfl rfl)) rfl rfl ?_; refine M0 (q_or rfl rfl rfl rfl) rfl rfl ?_
  refine M0 (q_moveC rfl rfl rfl) rfl rfl ?_; refine M0 (Qt.grdF rfl rfl rfl .stop (fun hgrd => q_fldp rfl rfl rfl rfl (by decide))) rfl rfl ?_
  refine M0 (Qt.grdF rfl rfl rfl (.hit .stop) (fun hgrd => q_ld1 rfl rfl rfl rfl rfl)) rfl rfl ?_
  refine M0 (Qt.grdF rfl rfl rfl (.hit (.hit .stop)) (fun hgrd => q_call0 rfl rfl (S_in x.Every 1 100) rfl)) rfl rfl ?_
  refine M0 (Qt.grdF rfl rfl rfl (.hit (.hit (.hit .stop))) (fun hgrd => q_not rfl rfl rfl)) rfl rfl ?_; refine M0 (q_or rfl rfl rfl rfl) rfl rfl ?_
  refine M0 (q_moveC rfl rfl rfl) rfl rfl ?_; refine M0 (Qt.grdF rfl rfl rfl .stop (fun hgrd => q_fldp rfl rfl rfl rfl (by decide))) rfl rfl ?_
  refine M0 (Qt.grdF rfl rfl rfl (.hit .stop) (fun hgrd => q_ld1 rfl rfl rfl rfl rfl)) rfl rfl ?_
  refine M0 (Qt.grdF rfl rfl rfl (.hit (.hit .stop)) (fun hgrd => q_len rfl rfl rfl)) rfl rfl ?_
  refine M0 (Qt.grdF rfl rfl rfl (.hit (.hit (.hit .stop))) (fun hgrd => q_gtr rfl rfl rfl rfl)) rfl rfl ?_; refine M0 (q_or rfl rfl rfl rfl) rfl rfl ?_; refine L_nil ?_; refine T_n ?_
  refine A_cond rfl (fun h1 => ?_) (fun h1 => ?_)
  · rw [hlr, Bool.or_assoc, Bool.or_eq_true] at h1
    refine A_seq ?_; refine A_region ?_; refine M0 (q_assignC rfl rfl rfl) rfl rfl ?_; refine L_nil ?_; refine T_n ?_; refine A_ret ?_; refine T_r ?_; refine F_r ?_
    exact E_tmp rfl rfl (W_end [] (by decide) rfl rfl (B_eq (replay_no (h1.imp_right .inl)).symm))
  rw [hlr, Bool.or_assoc, Bool.or_eq_false_iff] at h1
  have hE : 1 ≤ x.Every := by
    have h2 := h1.2
    simp only [Bool.or_eq_false_iff, Bool.not_eq_false', inR_iff] at h2
    exact h2.1.1
  refine AWP.pre (st' := (⟨_, [(1, .o (.c (.ptr 0 0)))], [.box ((Enc.e x).map (V1.rd []))]⟩ : St)) ?_ (W_go [0] (by decide) rfl (rfl) (.cons rfl (.nil)))
  refine A_skip ?_; refine T_n ?_; refine A_seq ?_; refine A_seq ?_; refine A_region ?_; refine M0 (q_assignC rfl rfl rfl) rfl rfl ?_; refine L_nil ?_; refine T_n ?_; refine A_block ?_
  refine A_loop (fun m st => ∃ k : Nat, k + m = x.Rows.length ∧ ((x.Rows.take k).all (fun row => rowOk row x.Players) = true) ∧ st = (fun k : Nat => (⟨_, [(1, .o (.c (.ptr 0 0))), (3, I k)], [.box ((Enc.e x).map (V1.rd []))]⟩ : St)) k) (x.Rows.length) ⟨(fun k : Nat => (⟨_, [(1, .o (.c (.ptr 0 0))), (3, I k)], [.box ((Enc.e x).map (V1.rd []))]⟩ : St)) 0, W_go [0] (by decide) rfl (rfl) (.cons rfl (.cons rfl (.nil))), 0, by omega, by simp, rfl⟩ ?_
  rintro m_A _ ⟨k, hk_A, hp_A, rfl⟩
  refine A_seq ?_; refine A_seq ?_; refine A_region ?_; refine M0 (q_moveC rfl rfl rfl) rfl rfl ?_; refine M0 (q_fldp rfl rfl rfl rfl (by decide)) rfl rfl ?_
  refine M0 (q_ld1 rfl rfl rfl rfl rfl) rfl rfl ?_; refine M0 (q_len rfl rfl rfl) rfl rfl ?_; refine M0 (q_lss rfl rfl rfl rfl) rfl rfl ?_; refine L_nil ?_; refine T_n ?_
  refine A_cond rfl (fun h => ?_) (fun h => ?_)
  · have h3 : k < x.Rows.length := by have := of_decide_eq_true h; omega
    have hat := els_at h3
    have hc := S_rowOk x.Rows[k] x.Players (g_Rows.2 _ (List.getElem_mem h3))
    refine A_skip ?_; refine T_n ?_; refine A_seq ?_; refine A_block ?_; refine A_seq ?_
    refine A_draw [[], [0], [], [0, 1, 2], [0, 1, 2, 3], [], [5], [0, 1, 2, 3, 4, 5, 6], [0, 1, 2, 3, 4, 5, 6, 7]] [[], [39], [], [39, 40, 41], [39, 40, 41, 42], [], [44], [39, 40, 41, 42, 43, 44, 45], [39, 40, 41, 42, 43, 44, 45, 46]] [[41, 44, 45], [41, 44, 45], [39, 40, 44, 45], [44, 45], [44, 45], [39, 40, 41, 42, 43], [39, 40, 41, 42, 43], [], []] rfl ?_
    refine DR.step (q_fldp rfl rfl rfl rfl (by decide)) rfl rfl ?_; refine DR.step (q_ld1 rfl rfl rfl rfl rfl) rfl rfl ?_; refine DR.step (q_moveC rfl rfl rfl) rfl rfl ?_
    refine DR.step (q_at rfl rfl rfl rfl (by omega) (by assumption) rfl) rfl rfl ?_; refine DR.step (q_lr1 rfl rfl rfl rfl) rfl rfl ?_
    refine DR.step (q_fldp rfl rfl rfl rfl (by decide)) rfl rfl ?_; refine DR.step (q_ld1 rfl rfl rfl rfl rfl) rfl rfl ?_; refine DR.step (q_call0 rfl rfl (hc) rfl) rfl rfl ?_
    refine DR.step (q_not rfl rfl rfl) rfl rfl ?_; refine DR.stop (by kernel_rfl) (by kernel_rfl) ?_
    refine L_nil ?_; refine T_n ?_
    refine A_cond rfl (fun h4 => ?_) (fun h4 => ?_)
    · refine A_seq ?_; refine A_region ?_; refine M0 (q_assignC rfl rfl rfl) rfl rfl ?_; refine L_nil ?_; refine T_n ?_; refine A_ret ?_; refine B_r ?_; refine T_r ?_; refine T_r ?_; refine B_r ?_
      refine T_r ?_; refine F_r ?_
      exact E_tmp rfl rfl (W_end [] (by decide) rfl rfl (B_eq (replay_no (.inr (.inr (all_no h3 (by simpa using h4))))).symm))
    · refine A_skip ?_; refine B_n ?_; refine T_n ?_; refine A_region ?_; refine M0 (q_moveC rfl rfl rfl) rfl rfl ?_; refine M0 (q_add rfl rfl rfl rfl (by omega)) rfl rfl ?_
      refine M0 (q_assignC rfl rfl rfl) rfl rfl ?_; refine L_nil ?_; refine T_n ?_
      exact ⟨x.Rows.length - (k + 1), by omega, (fun k : Nat => (⟨_, [(1, .o (.c (.ptr 0 0))), (3, I k)], [.box ((Enc.e x).map (V1.rd []))]⟩ : St)) (k + 1), W_go [0] (by decide) rfl (rfl) (.cons rfl (.cons rfl (.nil))), k + 1, by omega, all_next hp_A h3 (by simpa using h4), rfl⟩
  · have h3 : ¬ ((k : Int) < (els x.Rows).length) := of_decide_eq_false h
    refine A_exit ?_; refine T_x ?_; refine T_x ?_; refine B_xs ?_; refine T_n ?_; refine A_seq ?_
    refine A_draw [[], [0], [0, 1], [], [3], [3, 4], [], [6], [3, 4, 5, 6, 7], [0, 1, 2, 3, 4, 5, 6, 7, 8], [0, 1, 2, 3, 4, 5, 6, 7, 8, 9]] [[], [48], [48, 49], [], [51], [51, 52], [], [54], [51, 52, 53, 54, 55], [48, 49, 50, 51, 52, 53, 54, 55, 56], [48, 49, 50, 51, 52, 53, 54, 55, 56, 57]] [[51, 52, 53, 54, 55, 56], [51, 52, 53, 54, 55, 56], [51, 52, 53, 54, 55, 56], [48, 49, 50, 54, 55], [48, 49, 50, 54, 55], [48, 49, 50, 54, 55], [48, 49, 50, 51, 52, 53], [48, 49, 50, 51, 52, 53], [48, 49, 50], [], []] rfl ?_
    refine DR.step (q_fldp rfl rfl rfl rfl (by decide)) rfl rfl ?_; refine DR.step (q_ld1 rfl rfl rfl rfl rfl) rfl rfl ?_; refine DR.step (q_len rfl rfl rfl) rfl rfl ?_
    refine DR.step (q_fldp rfl rfl rfl rfl (by decide)) rfl rfl ?_; refine DR.step (q_ld1 rfl rfl rfl rfl rfl) rfl rfl ?_; refine DR.step (q_len rfl rfl rfl) rfl rfl ?_
    refine DR.step (q_fldp rfl rfl rfl rfl (by decide)) rfl rfl ?_; refine DR.step (q_ld1 rfl rfl rfl rfl rfl) rfl rfl ?_; refine DR.step (q_quo rfl rfl rfl rfl (by omega)) rfl rfl ?_
    refine DR.step (q_eql rfl rfl rfl rfl) rfl rfl ?_; refine DR.step (q_assignC rfl rfl rfl) rfl rfl ?_; refine DR.stop (by kernel_rfl) (by kernel_rfl) ?_
    refine L_nil ?_; refine T_n ?_; refine A_ret ?_; refine F_r ?_
    exact E_tmp rfl rfl (W_end [] (by decide) rfl rfl (B_eq (by rw [replay_yes h1.1 h1.2 (all_end hp_A (by omega)), hlr, hlk])))
end Go.Proofs.Ytkfnaniegldfaaa
