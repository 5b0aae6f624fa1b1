/-
  The law FnExactDecodeStream returns true.
  Conditions: none.
-/
import Derived.Test.YtkfnaniegldfaaaDDecS
import Derived.Test.YtkfnaniegldfaaaDMarkR
set_option linter.unusedSimpArgs false
set_option linter.unusedVariables false
namespace Go.Proofs.Ytkfnaniegldfaaa
open Go.RowKit

theorem ds_form (t : ByteArray) (hs : t.size ≤ 1099511627776) : ∃ h R b, Con Try.prog 17 [] [astr t] [.row 1 (els R)] (.tu [.c (jn h), .c (.ref 0), .c (bv b)]) ∧ Con Try.prog 16 [] [astr t] [.row 1 (els R)] (.tu [.c (jn h), .c (.ref 0), .c (bv b)]) ∧ Enc.gd R ∧ R.length ≤ 20 ∧ tot R ≤ 80 := by
  have h1 := I_DecodeStream t hs
  have h2 := S_DecodeStream t hs
  rw [← ds_eq] at h2
  cases hd : dsI t with
  | none =>
    rw [hd] at h1 h2
    exact ⟨0, [], false, h1, h2, ⟨by simp, fun x hx => by simp at hx⟩, by simp, by simp [tot]⟩
  | some r =>
    obtain ⟨h, R⟩ := r
    rw [hd] at h1 h2
    exact ⟨h, R, true, h1, h2, (dsI_some hd).2⟩
set_option maxHeartbeats 8000000 in
theorem law_DecodeStream (s : ByteArray) (hg : Enc.gd s) : Con Try.prog 4 [] [astr s] [] (B true) := by
  by_cases n1 : (1048576 : Int) < s.size
  · have hb1 : decide ((1048576 : Int) < s.size) = true := decide_eq_true n1
    refine Con.of Try.func4 rfl Try.ntmps4 rfl (fun E => ?_)
    refine A_seq ?_; refine A_region ?_; refine M0 (q_assignC rfl rfl rfl) rfl rfl ?_; refine L_nil ?_; refine T_n ?_; refine A_seq ?_; refine A_seq ?_; refine A_region ?_
    refine M0 (q_moveC rfl rfl rfl) rfl rfl ?_; refine M0 (q_lens rfl rfl rfl) rfl rfl ?_; refine M0 (q_gtrK rfl rfl rfl rfl (by assumption)) rfl rfl ?_; refine L_nil ?_; refine T_n ?_
    refine A_ifT rfl ?_; refine A_seq ?_; refine A_region ?_; refine M0 (q_assignC rfl rfl rfl) rfl rfl ?_; refine L_nil ?_; refine T_n ?_; refine A_ret ?_; refine T_r ?_; refine F_r ?_
    exact E_tmp rfl rfl (W_end [] (by decide) rfl rfl rfl)
  have hb1 : decide ((1048576 : Int) < s.size) = false := decide_eq_false n1
  obtain ⟨h, y, b, hip, hsp, hgd, hy1, hy2⟩ := ds_form s (by omega)
  have hq1 := eq_IntSS y y hgd
  rw [decide_eq_true rfl] at hq1
  have hm_y := L_markIntSS y 1 (by omega) (by omega) (by omega) (by omega)
  have hh := L_heldIntSS y 1 (by omega) (by omega) (by omega) (by omega)
  have hk2 : decide ((1 : Int) + tot y < 0) = false := decide_eq_false (by omega)
  refine Con.of Try.func4 rfl Try.ntmps4 rfl (fun E => ?_)
  refine A_seq ?_; refine A_region ?_; refine M0 (q_assignC rfl rfl rfl) rfl rfl ?_; refine L_nil ?_; refine T_n ?_; refine A_seq ?_; refine A_seq ?_; refine A_region ?_
  refine M0 (q_moveC rfl rfl rfl) rfl rfl ?_; refine M0 (q_lens rfl rfl rfl) rfl rfl ?_; refine M0 (q_gtrK rfl rfl rfl rfl (by assumption)) rfl rfl ?_; refine L_nil ?_; refine T_n ?_
  refine A_ifF rfl ?_; refine A_skip ?_; refine T_n ?_; refine A_seq ?_; refine A_region ?_; refine M0 (q_moveC rfl rfl rfl) rfl rfl ?_; refine M1 (q_call rfl rfl (hsp) rfl rfl rfl) rfl rfl ?_
  refine M0 (q_moveT rfl rfl rfl) rfl rfl ?_; refine M0 (q_ext rfl rfl rfl rfl) rfl rfl ?_; refine M0 (q_ext rfl rfl rfl rfl) rfl rfl ?_; refine M0 (q_ext rfl rfl rfl rfl) rfl rfl ?_
  refine M0 (q_assignC rfl rfl rfl) rfl rfl ?_; refine M0 (q_assignC rfl rfl rfl) rfl rfl ?_; refine M0 (q_assignC rfl rfl rfl) rfl rfl ?_; refine L_nil ?_; refine T_n ?_; refine A_seq ?_
  refine A_region ?_; refine M0 (q_moveC rfl rfl rfl) rfl rfl ?_; refine M1 (q_call rfl rfl (hip) rfl rfl rfl) rfl rfl ?_; refine M0 (q_moveT rfl rfl rfl) rfl rfl ?_
  refine M0 (q_ext rfl rfl rfl rfl) rfl rfl ?_; refine M0 (q_ext rfl rfl rfl rfl) rfl rfl ?_; refine M0 (q_ext rfl rfl rfl rfl) rfl rfl ?_; refine M0 (q_assignC rfl rfl rfl) rfl rfl ?_
  refine M0 (q_assignC rfl rfl rfl) rfl rfl ?_; refine M0 (q_assignC rfl rfl rfl) rfl rfl ?_; refine L_nil ?_; refine T_n ?_; refine A_seq ?_; refine A_seq ?_; refine A_region ?_
  refine M0 (q_moveC rfl rfl rfl) rfl rfl ?_; refine M0 (q_moveC rfl rfl rfl) rfl rfl ?_; refine M0 (q_neqR rfl rfl rfl rfl) rfl rfl ?_; refine M0 (q_moveC rfl rfl rfl) rfl rfl ?_
  refine M_yes rfl rfl rfl ?_; refine M0 (q_moveC rfl rfl rfl) rfl rfl ?_; refine M_yes rfl rfl rfl ?_; refine M0 (q_moveC rfl rfl rfl) rfl rfl ?_; refine M_yes rfl rfl rfl ?_
  refine M0 (q_call0 rfl rfl (hq1) rfl) rfl rfl ?_; refine M_yes rfl rfl rfl ?_; refine M0 (q_not rfl rfl rfl) rfl rfl ?_; refine M0 (q_pickF rfl rfl rfl rfl) rfl rfl ?_
  refine M0 (q_moveC rfl rfl rfl) rfl rfl ?_; refine M_yes rfl rfl rfl ?_; refine M0 (q_moveC rfl rfl rfl) rfl rfl ?_; refine M_yes rfl rfl rfl ?_; refine M0 (q_moveC rfl rfl rfl) rfl rfl ?_
  refine M_yes rfl rfl rfl ?_; refine M0 (q_bneqR rfl rfl rfl rfl) rfl rfl ?_; refine M0 (q_pickF rfl rfl rfl rfl) rfl rfl ?_; refine L_nil ?_; refine T_n ?_; refine A_ifF rfl ?_
  refine A_skip ?_; refine T_n ?_; refine A_seq ?_; refine A_region ?_; refine M0 (q_assignC rfl rfl rfl) rfl rfl ?_; refine L_nil ?_; refine T_n ?_; refine A_seq ?_; refine A_region ?_
  refine M0 (q_moveC rfl rfl rfl) rfl rfl ?_; refine M0 (q_moveC rfl rfl rfl) rfl rfl ?_
  refine AL.weak (st' := (⟨_, [(0, S s), (3, I h), (4, .o (.c (.ref 0))), (5, B b), (7, .o (.c (.ref 1))), (43, .o (.c (.ref 1))), (44, I 1)], [.row 1 (els y), .row 1 (els y)]⟩ : St)) (W_go [0, 1] (by decide) rfl (rfl) (.cons rfl (.cons rfl (.cons rfl (.cons rfl (.cons rfl (.cons rfl (.cons rfl (.nil))))))))) ?_
  refine M_lent (lo := [_]) (gs := [(0, .c (.ref 0))]) (lo' := [_]) (new := []) [1] [(0, 0, .ref 0)] (hm_y) rfl rfl rfl rfl rfl rfl rfl rfl rfl rfl rfl rfl rfl rfl rfl rfl rfl ?_
  refine M0 (q_assignC rfl rfl rfl) rfl rfl ?_; refine L_nil ?_; refine T_n ?_; refine A_seq ?_; refine A_region ?_; refine M0 (q_assignC rfl rfl rfl) rfl rfl ?_; refine L_nil ?_; refine T_n ?_
  refine A_seq ?_; refine A_region ?_; refine M0 (q_moveC rfl rfl rfl) rfl rfl ?_; refine M0 (q_moveC rfl rfl rfl) rfl rfl ?_
  refine AL.weak (st' := (⟨_, [(0, S s), (3, I h), (4, .o (.c (.ref 0))), (5, B b), (7, .o (.c (.ref 1))), (9, I (1 + tot y)), (46, .o (.c (.ref 1))), (47, I 1)], [.row 1 (els y), .row 1 (els (markII y 1))]⟩ : St)) (W_go [0, 1] (by decide) rfl (rfl) (.cons rfl (.cons rfl (.cons rfl (.cons rfl (.cons rfl (.cons rfl (.cons rfl (.cons rfl (.nil)))))))))) ?_
  refine M0 (q_call0 rfl rfl (hh) rfl) rfl rfl ?_; refine M0 (q_assignC rfl rfl rfl) rfl rfl ?_; refine L_nil ?_; refine T_n ?_; refine A_seq ?_; refine A_seq ?_; refine A_region ?_
  refine M0 (q_moveC rfl rfl rfl) rfl rfl ?_; refine M0 (q_lssK rfl rfl rfl rfl (by assumption)) rfl rfl ?_; refine L_nil ?_; refine T_n ?_; refine A_ifF rfl ?_; refine A_skip ?_; refine T_n ?_
  refine A_seq ?_; refine A_seq ?_; refine A_region ?_; refine M0 (q_moveC rfl rfl rfl) rfl rfl ?_; refine M0 (q_moveC rfl rfl rfl) rfl rfl ?_; refine M0 (q_neqR rfl rfl rfl rfl) rfl rfl ?_
  refine L_nil ?_; refine T_n ?_; refine A_ifF rfl ?_; refine A_skip ?_; refine T_n ?_; refine A_seq ?_; refine A_region ?_; refine M0 (q_moveC rfl rfl rfl) rfl rfl ?_
  refine AL.weak (st' := (⟨_, [(3, I h), (4, .o (.c (.ref 0))), (5, B b), (7, .o (.c (.ref 1))), (9, I (1 + tot y)), (55, S s)], [.row 1 (els y), .row 1 (els (markII y 1))]⟩ : St)) (W_go [0, 1] (by decide) rfl (rfl) (.cons rfl (.cons rfl (.cons rfl (.cons rfl (.cons rfl (.cons rfl (.nil)))))))) ?_
  refine M1 (q_call rfl rfl (hip) rfl rfl rfl) rfl rfl ?_; refine M0 (q_moveT rfl rfl rfl) rfl rfl ?_; refine M0 (q_ext rfl rfl rfl rfl) rfl rfl ?_
  refine M0 (q_ext rfl rfl rfl rfl) rfl rfl ?_; refine M0 (q_ext rfl rfl rfl rfl) rfl rfl ?_; refine M0 (q_assignC rfl rfl rfl) rfl rfl ?_; refine M0 (q_assignC rfl rfl rfl) rfl rfl ?_
  refine M0 (q_assignC rfl rfl rfl) rfl rfl ?_; refine L_nil ?_; refine T_n ?_; refine A_seq ?_; refine A_seq ?_; refine A_region ?_; refine M0 (q_moveC rfl rfl rfl) rfl rfl ?_
  refine M0 (q_moveC rfl rfl rfl) rfl rfl ?_; refine M0 (q_neqR rfl rfl rfl rfl) rfl rfl ?_; refine M0 (q_moveC rfl rfl rfl) rfl rfl ?_; refine M_yes rfl rfl rfl ?_
  refine M0 (q_moveC rfl rfl rfl) rfl rfl ?_; refine M_yes rfl rfl rfl ?_; refine M0 (q_moveC rfl rfl rfl) rfl rfl ?_; refine M_yes rfl rfl rfl ?_
  refine M0 (q_call0 rfl rfl (hq1) rfl) rfl rfl ?_; refine M_yes rfl rfl rfl ?_; refine M0 (q_not rfl rfl rfl) rfl rfl ?_; refine M0 (q_pickF rfl rfl rfl rfl) rfl rfl ?_
  refine M0 (q_moveC rfl rfl rfl) rfl rfl ?_; refine M_yes rfl rfl rfl ?_; refine M0 (q_moveC rfl rfl rfl) rfl rfl ?_; refine M_yes rfl rfl rfl ?_; refine M0 (q_moveC rfl rfl rfl) rfl rfl ?_
  refine M_yes rfl rfl rfl ?_; refine M0 (q_bneqR rfl rfl rfl rfl) rfl rfl ?_; refine M0 (q_pickF rfl rfl rfl rfl) rfl rfl ?_; refine L_nil ?_; refine T_n ?_; refine A_ifF rfl ?_
  refine A_skip ?_; refine T_n ?_; refine A_seq ?_; refine A_region ?_; refine M0 (q_assignC rfl rfl rfl) rfl rfl ?_; refine L_nil ?_; refine T_n ?_; refine A_seq ?_; refine A_region ?_
  refine M0 (q_moveC rfl rfl rfl) rfl rfl ?_; refine M0 (q_moveC rfl rfl rfl) rfl rfl ?_
  refine AL.weak (st' := (⟨_, [(9, I (1 + tot y)), (74, .o (.c (.ref 0))), (75, I 1)], [.row 1 (els (markII y 1))]⟩ : St)) (W_go [1] (by decide) rfl (rfl) (.cons rfl (.cons rfl (.cons rfl (.nil))))) ?_
  refine M0 (q_call0 rfl rfl (hh) rfl) rfl rfl ?_; refine M0 (q_assignC rfl rfl rfl) rfl rfl ?_; refine L_nil ?_; refine T_n ?_; refine A_seq ?_; refine A_seq ?_; refine A_region ?_
  refine M0 (q_moveC rfl rfl rfl) rfl rfl ?_; refine M0 (q_lssK rfl rfl rfl rfl (by assumption)) rfl rfl ?_; refine L_nil ?_; refine T_n ?_; refine A_ifF rfl ?_; refine A_skip ?_; refine T_n ?_
  refine A_seq ?_; refine A_seq ?_; refine A_region ?_; refine M0 (q_moveC rfl rfl rfl) rfl rfl ?_; refine M0 (q_moveC rfl rfl rfl) rfl rfl ?_; refine M0 (q_neqR rfl rfl rfl rfl) rfl rfl ?_
  refine L_nil ?_; refine T_n ?_; refine A_ifF rfl ?_; refine A_skip ?_; refine T_n ?_; refine A_seq ?_; refine A_region ?_; refine M0 (q_assignC rfl rfl rfl) rfl rfl ?_; refine L_nil ?_
  refine T_n ?_; refine A_ret ?_; refine F_r ?_
  exact E_tmp rfl rfl (W_end [] (by decide) rfl rfl rfl)
end Go.Proofs.Ytkfnaniegldfaaa
