/-
  The law FnExactNewReplay returns true.
  Conditions: none.
-/
import Derived.Test.YtjkpoffhnccanaaDNew
import Derived.Test.YtjkpoffhnccanaaDMark
import Derived.Test.YtjkpoffhnccanaaDLawKit
set_option linter.unusedSimpArgs false
set_option linter.unusedVariables false
namespace Go.Proofs.Ytjkpoffhnccanaa
open Go.RowKit

theorem new_form (l : TLevel) (p s e : Int) (hl : Enc.gd l) (hL : l.Rows.length ≤ 1048576) (hp : I64 p) (hs : I64 s) (he : I64 e) : ∃ rs p' s' e', newReplay l p s e = ⟨⟨rs⟩, p', s', e', [], []⟩ ∧ rs.length ≤ 1048576 ∧ Enc.gd (newReplay l p s e) := by
  unfold newReplay
  split
  · exact ⟨_, _, _, _, rfl, hL, hl, hp, hs, he, ⟨by simp, fun x hx => by simp at hx⟩, ⟨by simp, fun x hx => by simp at hx⟩⟩
  · exact ⟨_, _, _, _, rfl, by simp, ⟨by simp [zeroReplay], fun x hx => by simp [zeroReplay] at hx⟩, ⟨by decide, by decide⟩, ⟨by decide, by decide⟩, ⟨by decide, by decide⟩, ⟨by simp [zeroReplay], fun x hx => by simp [zeroReplay] at hx⟩, ⟨by simp [zeroReplay], fun x hx => by simp [zeroReplay] at hx⟩⟩
@[reducible] def iv (n : Int) : V1 := .rd [] (.v (.int .i64 n))
set_option maxHeartbeats 8000000 in
theorem law_NewReplay (l : TLevel) (p s e : Int) (hl : Enc.gd l) (hp : I64 p) (hs : I64 s) (he : I64 e) : Con Try.prog 8 [] [ag l, ai p, ai s, ai e] [] (B true) := by
  have hz1 := sz_Level l 1048576 hl (by omega) (by omega)
  by_cases n1 : (1048576 : Int) < Enc.wt l
  · rw [szr_neg n1] at hz1
    refine Con.of Try.func8 rfl Try.ntmps8 rfl (fun E => ?_)
    refine A_seq ?_; refine A_region ?_; refine M1 (q_boxN rfl rfl rfl rfl) rfl rfl ?_; refine M0 (q_assignC rfl rfl rfl) rfl rfl ?_; refine L_nil ?_; refine T_n ?_; refine A_seq ?_
    refine A_region ?_; refine M0 (q_assignC rfl rfl rfl) rfl rfl ?_; refine L_nil ?_; refine T_n ?_; refine A_seq ?_; refine A_region ?_; refine M0 (q_ldN rfl rfl rfl rfl rfl rfl) rfl rfl ?_
    refine M0 (q_moveC rfl rfl rfl) rfl rfl ?_; refine M0 (q_call0 rfl rfl (hz1) rfl) rfl rfl ?_; refine M0 (q_assignC rfl rfl rfl) rfl rfl ?_; refine L_nil ?_; refine T_n ?_; refine A_seq ?_
    refine A_seq ?_; refine A_region ?_; refine M0 (q_moveC rfl rfl rfl) rfl rfl ?_; refine M0 (q_lssK (b := true) rfl rfl rfl rfl (by decide)) rfl rfl ?_; refine L_nil ?_; refine T_n ?_
    refine A_ifT rfl ?_; refine A_seq ?_; refine A_region ?_; refine M0 (q_assignC rfl rfl rfl) rfl rfl ?_; refine L_nil ?_; refine T_n ?_; refine A_ret ?_; refine T_r ?_; refine F_r ?_
    exact E_tmp rfl rfl (W_end [] (by decide) rfl rfl rfl)
  rw [szr_pos (by omega)] at hz1
  have hb1 : decide ((1048576 : Int) - Enc.wt l < 0) = false := decide_eq_false (by omega)
  have hL : l.Rows.length ≤ 1048576 := by
    have h2 : Enc.wt l = l.Rows.length + wts l.Rows := rfl
    omega
  have ht1 := to_Level l (by omega)
  have hsp := S_NewReplay l p s e hl hL hp hs he
  have hip := I_NewReplay l p s e hl hL hp hs he
  obtain ⟨rs, p', s', e', hr, hrl, hrg⟩ := new_form l p s e hl hL hp hs he
  rw [hr] at hsp hip hrg
  have hq1 := eq_Replay _ ⟨⟨rs⟩, p', s', e', [], []⟩ hrg
  have hq2 := eq_Level l l hl
  rw [decide_eq_true rfl] at hq1 hq2
  have hk1 : decide ((1 : Int) + l.Rows.length < 0) = false := decide_eq_false (by omega)
  have hk2 : decide ((1 : Int) + rs.length + ([] : List ByteArray).length < 0) = false := decide_eq_false (by omega)
  have hh := L_heldReplay0 rs [] p' s' e' 1 hrl (by simp) (by omega) (by omega)
  generalize replayOk ⟨l, p, s, e, [], []⟩ = bo at hsp hip
  refine Con.of Try.func8 rfl Try.ntmps8 rfl (fun E => ?_)
  refine A_seq ?_; refine A_region ?_; refine M1 (q_boxN rfl rfl rfl rfl) rfl rfl ?_; refine M0 (q_assignC rfl rfl rfl) rfl rfl ?_; refine L_nil ?_; refine T_n ?_; refine A_seq ?_
  refine A_region ?_; refine M0 (q_assignC rfl rfl rfl) rfl rfl ?_; refine L_nil ?_; refine T_n ?_; refine A_seq ?_; refine A_region ?_; refine M0 (q_ldN rfl rfl rfl rfl rfl rfl) rfl rfl ?_
  refine M0 (q_moveC rfl rfl rfl) rfl rfl ?_; refine M0 (q_call0 rfl rfl (hz1) rfl) rfl rfl ?_; refine M0 (q_assignC rfl rfl rfl) rfl rfl ?_; refine L_nil ?_; refine T_n ?_; refine A_seq ?_
  refine A_seq ?_; refine A_region ?_; refine M0 (q_moveC rfl rfl rfl) rfl rfl ?_; refine M0 (q_lssK rfl rfl rfl rfl (by assumption)) rfl rfl ?_; refine L_nil ?_; refine T_n ?_
  refine A_ifF rfl ?_; refine A_skip ?_; refine T_n ?_; refine A_seq ?_; refine A_region ?_; refine M0 (q_ldN rfl rfl rfl rfl rfl rfl) rfl rfl ?_
  refine M1 (q_call rfl rfl (ht1) rfl rfl rfl) rfl rfl ?_; refine M0 (q_moveC rfl rfl rfl) rfl rfl ?_; refine M0 (q_moveC rfl rfl rfl) rfl rfl ?_
  refine M0 (q_moveC rfl rfl rfl) rfl rfl ?_; refine M1 (q_call rfl rfl (hsp) rfl rfl rfl) rfl rfl ?_; refine M0 (q_moveT rfl rfl rfl) rfl rfl ?_
  refine M0 (q_ext rfl rfl rfl rfl) rfl rfl ?_; refine M0 (q_ext rfl rfl rfl rfl) rfl rfl ?_; refine M1 (q_alloc rfl rfl rfl) rfl rfl ?_
  refine M_stN rfl rfl rfl rfl rfl rfl rfl rfl rfl ?_; refine M0 (q_assignC rfl rfl rfl) rfl rfl ?_; refine L_nil ?_; refine T_n ?_; refine A_seq ?_; refine A_region ?_
  refine M0 (q_ldN rfl rfl rfl rfl rfl rfl) rfl rfl ?_; refine M1 (q_call rfl rfl (ht1) rfl rfl rfl) rfl rfl ?_; refine M1 (q_alloc rfl rfl rfl) rfl rfl ?_
  refine M_stN rfl rfl rfl rfl rfl rfl rfl rfl rfl ?_; refine L_nil ?_; refine T_n ?_; refine A_seq ?_; refine A_region ?_; refine M0 (q_ldN rfl rfl rfl rfl rfl rfl) rfl rfl ?_
  refine M0 (q_moveC rfl rfl rfl) rfl rfl ?_; refine M0 (q_moveC rfl rfl rfl) rfl rfl ?_; refine M0 (q_moveC rfl rfl rfl) rfl rfl ?_
  refine M1 (q_call rfl rfl (hip) rfl rfl rfl) rfl rfl ?_; refine M0 (q_moveT rfl rfl rfl) rfl rfl ?_; refine M0 (q_ext rfl rfl rfl rfl) rfl rfl ?_
  refine M0 (q_ext rfl rfl rfl rfl) rfl rfl ?_; refine M1 (q_alloc rfl rfl rfl) rfl rfl ?_; refine M_stN rfl rfl rfl rfl rfl rfl rfl rfl rfl ?_
  refine M0 (q_assignC rfl rfl rfl) rfl rfl ?_; refine L_nil ?_; refine T_n ?_; refine A_seq ?_; refine A_seq ?_; refine A_region ?_; refine M0 (q_ldN rfl rfl rfl rfl rfl rfl) rfl rfl ?_
  refine M0 (q_ldN rfl rfl rfl rfl rfl rfl) rfl rfl ?_; refine M0 (q_call0 rfl rfl (hq1) rfl) rfl rfl ?_; refine M0 (q_not rfl rfl rfl) rfl rfl ?_
  refine M0 (q_moveC rfl rfl rfl) rfl rfl ?_; refine M_yes rfl rfl rfl ?_; refine M0 (q_moveC rfl rfl rfl) rfl rfl ?_; refine M_yes rfl rfl rfl ?_; refine M0 (q_moveC rfl rfl rfl) rfl rfl ?_
  refine M_yes rfl rfl rfl ?_; refine M0 (q_bneqR rfl rfl rfl rfl) rfl rfl ?_; refine M0 (q_pickF rfl rfl rfl rfl) rfl rfl ?_; refine L_nil ?_; refine T_n ?_; refine A_ifF rfl ?_
  refine A_skip ?_; refine T_n ?_; refine A_seq ?_; refine A_seq ?_
  refine AWP.pre (st' := (⟨_, [(1, I p), (2, I s), (3, I e), (4, .o (.c (.ptr 0 0))), (10, .o (.c (.ptr 4 0))), (11, B bo), (12, .o (.c (.ptr 6 0))), (13, .o (.c (.ptr 10 0))), (14, B bo)], [.box ((Enc.e l).map (V1.rd [])), .row 1 (els rs), .row 1 [], .row 1 [], .box [.ref 1, iv p', iv s', iv e', .ref 2, .ref 3], .row 1 (els l.Rows), .box [.ref 5], .row 1 (els rs), .row 1 [], .row 1 [], .box [.ref 7, iv p', iv s', iv e', .ref 8, .ref 9]]⟩ : St)) ?_ (W_go [0, 2, 3, 4, 5, 6, 7, 8, 9, 10, 11] (by decide) rfl (rfl) (.cons rfl (.cons rfl (.cons rfl (.cons rfl (.cons rfl (.cons rfl (.cons rfl (.cons rfl (.cons rfl (.nil)))))))))))
  refine A_draw [[], [], [1], [0, 1, 2], [0, 1, 2, 3]] [[], [], [54], [53, 54, 55], [53, 54, 55, 56]] [[54, 55], [53], [53], [], []] rfl ?_
  refine DR.step (q_ldN rfl rfl rfl rfl rfl rfl) rfl rfl ?_; refine DR.step (q_ldN rfl rfl rfl rfl rfl rfl) rfl rfl ?_; refine DR.step (q_call rfl rfl (ht1) rfl rfl rfl) rfl rfl ?_
  refine DR.step (q_call0 rfl rfl (hq2) rfl) rfl rfl ?_; refine DR.step (q_not rfl rfl rfl) rfl rfl ?_; refine DR.stop (by kernel_rfl) (by kernel_rfl) ?_
  refine L_nil ?_; refine T_n ?_
  refine AWP.pre (st' := (⟨_, [(1, I p), (2, I s), (3, I e), (4, .o (.c (.ptr 0 0))), (10, .o (.c (.ptr 4 0))), (11, B bo), (12, .o (.c (.ptr 6 0))), (13, .o (.c (.ptr 10 0))), (14, B bo), (57, B false)], [.box ((Enc.e l).map (V1.rd [])), .row 1 (els rs), .row 1 [], .row 1 [], .box [.ref 1, iv p', iv s', iv e', .ref 2, .ref 3], .row 1 (els l.Rows), .box [.ref 5], .row 1 (els rs), .row 1 [], .row 1 [], .box [.ref 7, iv p', iv s', iv e', .ref 8, .ref 9]]⟩ : St)) ?_ (W_go [0, 1, 2, 3, 4, 5, 6, 7, 8, 9, 10] (by decide) rfl (rfl) (.cons rfl (.cons rfl (.cons rfl (.cons rfl (.cons rfl (.cons rfl (.cons rfl (.cons rfl (.cons rfl (.cons rfl (.nil))))))))))))
  refine A_ifF rfl ?_; refine A_skip ?_; refine T_n ?_; refine A_seq ?_; refine A_region ?_; refine M0 (q_assignC rfl rfl rfl) rfl rfl ?_; refine L_nil ?_; refine T_n ?_; refine A_seq ?_
  refine A_region ?_; refine M0 (q_ldN rfl rfl rfl rfl rfl rfl) rfl rfl ?_; refine M0 (q_moveC rfl rfl rfl) rfl rfl ?_
  refine M_lent (lo := [_]) (gs := [(0, .ag [.ref 0])]) (lo' := [_]) (new := []) [5] [(0, 0, .ref 0)] (L_markLevel l.Rows 1 hL (by omega) (by omega)) rfl rfl rfl rfl rfl rfl rfl rfl rfl rfl rfl rfl rfl rfl rfl rfl rfl ?_
  refine M0 (q_assignC rfl rfl rfl) rfl rfl ?_; refine L_nil ?_; refine T_n ?_; refine A_seq ?_; refine A_seq ?_; refine A_region ?_; refine M0 (q_moveC rfl rfl rfl) rfl rfl ?_
  refine M0 (q_lssK rfl rfl rfl rfl (by assumption)) rfl rfl ?_; refine M0 (q_moveC rfl rfl rfl) rfl rfl ?_; refine M_yes rfl rfl rfl ?_
  refine M0 (q_ldN rfl rfl rfl rfl rfl rfl) rfl rfl ?_; refine M_yes rfl rfl rfl ?_; refine M0 (q_ldN rfl rfl rfl rfl rfl rfl) rfl rfl ?_; refine M_yes rfl rfl rfl ?_
  refine AL.weak (st' := (⟨_, [(1, I p), (2, I s), (3, I e), (4, .o (.c (.ptr 0 0))), (10, .o (.c (.ptr 4 0))), (11, B bo), (12, .o (.c (.ptr 6 0))), (13, .o (.c (.ptr 10 0))), (14, B bo), (63, B false), (64, .o (.ag [.ref 7, iv p', iv s', iv e', .ref 8, .ref 9])), (65, .o (.ag [.ref 1, iv p', iv s', iv e', .ref 2, .ref 3]))], [.box ((Enc.e l).map (V1.rd [])), .row 1 (els rs), .row 1 [], .row 1 [], .box [.ref 1, iv p', iv s', iv e', .ref 2, .ref 3], .row 1 (els (markS l.Rows 1)), .box [.ref 5], .row 1 (els rs), .row 1 [], .row 1 [], .box [.ref 7, iv p', iv s', iv e', .ref 8, .ref 9]]⟩ : St)) (W_go [0, 1, 2, 3, 4, 5, 6, 7, 8, 9, 10] (by decide) rfl (rfl) (.cons rfl (.cons rfl (.cons rfl (.cons rfl (.cons rfl (.cons rfl (.cons rfl (.cons rfl (.cons rfl (.cons rfl (.cons rfl (.cons rfl (.nil)))))))))))))) ?_
  refine M0 (q_call0 rfl rfl (hq1) rfl) rfl rfl ?_; refine M_yes rfl rfl rfl ?_; refine M0 (q_not rfl rfl rfl) rfl rfl ?_; refine M0 (q_pickF rfl rfl rfl rfl) rfl rfl ?_
  refine M0 (q_moveC rfl rfl rfl) rfl rfl ?_; refine M_yes rfl rfl rfl ?_; refine M0 (q_moveC rfl rfl rfl) rfl rfl ?_; refine M_yes rfl rfl rfl ?_; refine M0 (q_moveC rfl rfl rfl) rfl rfl ?_
  refine M_yes rfl rfl rfl ?_; refine M0 (q_bneqR rfl rfl rfl rfl) rfl rfl ?_; refine M0 (q_pickF rfl rfl rfl rfl) rfl rfl ?_; refine L_nil ?_; refine T_n ?_; refine A_ifF rfl ?_
  refine A_skip ?_; refine T_n ?_; refine A_seq ?_; refine A_region ?_; refine M0 (q_assignC rfl rfl rfl) rfl rfl ?_; refine L_nil ?_; refine T_n ?_; refine A_seq ?_; refine A_region ?_
  refine M0 (q_ldN rfl rfl rfl rfl rfl rfl) rfl rfl ?_; refine M0 (q_moveC rfl rfl rfl) rfl rfl ?_
  refine AL.weak (st' := (⟨_, [(1, I p), (2, I s), (3, I e), (4, .o (.c (.ptr 0 0))), (10, .o (.c (.ptr 4 0))), (11, B bo), (12, .o (.c (.ptr 6 0))), (13, .o (.c (.ptr 10 0))), (14, B bo), (74, .o (.ag [.ref 7, iv p', iv s', iv e', .ref 8, .ref 9])), (75, I 1)], [.box ((Enc.e l).map (V1.rd [])), .row 1 (els rs), .row 1 [], .row 1 [], .box [.ref 1, iv p', iv s', iv e', .ref 2, .ref 3], .row 1 (els (markS l.Rows 1)), .box [.ref 5], .row 1 (els rs), .row 1 [], .row 1 [], .box [.ref 7, iv p', iv s', iv e', .ref 8, .ref 9]]⟩ : St)) (W_go [0, 1, 2, 3, 4, 5, 6, 7, 8, 9, 10] (by decide) rfl (rfl) (.cons rfl (.cons rfl (.cons rfl (.cons rfl (.cons rfl (.cons rfl (.cons rfl (.cons rfl (.cons rfl (.cons rfl (.cons rfl (.nil))))))))))))) ?_
  refine M_lent (lo := [_, _, _]) (gs := [(0, .ag [.ref 0, iv p', iv s', iv e', .ref 1, .ref 2])]) (lo' := [_, _, _]) (new := []) [7, 8, 9] [(0, 0, .ref 0), (0, 4, .ref 1), (0, 5, .ref 2)] (L_markReplay0 rs [] p' s' e' 1 hrl (by simp) (by omega) (by omega)) rfl rfl rfl rfl rfl rfl rfl rfl rfl rfl rfl rfl rfl rfl rfl rfl rfl ?_
  refine M0 (q_assignC rfl rfl rfl) rfl rfl ?_; refine L_nil ?_; refine T_n ?_; refine A_seq ?_; refine A_region ?_; refine M0 (q_assignC rfl rfl rfl) rfl rfl ?_; refine L_nil ?_; refine T_n ?_
  refine A_seq ?_; refine A_region ?_; refine M0 (q_ldN rfl rfl rfl rfl rfl rfl) rfl rfl ?_; refine M0 (q_moveC rfl rfl rfl) rfl rfl ?_
  refine AL.weak (st' := (⟨_, [(1, I p), (2, I s), (3, I e), (4, .o (.c (.ptr 0 0))), (10, .o (.c (.ptr 4 0))), (11, B bo), (12, .o (.c (.ptr 6 0))), (13, .o (.c (.ptr 10 0))), (14, B bo), (16, I (1 + rs.length + ([] : List ByteArray).length)), (77, .o (.ag [.ref 7, iv p', iv s', iv e', .ref 8, .ref 9])), (78, I 1)], [.box ((Enc.e l).map (V1.rd [])), .row 1 (els rs), .row 1 [], .row 1 [], .box [.ref 1, iv p', iv s', iv e', .ref 2, .ref 3], .row 1 (els (markS l.Rows 1)), .box [.ref 5], .row 1 (els (markS rs 1)), .row 1 [], .row 1 [], .box [.ref 7, iv p', iv s', iv e', .ref 8, .ref 9]]⟩ : St)) (W_go [0, 1, 2, 3, 4, 5, 6, 7, 8, 9, 10] (by decide) rfl (rfl) (.cons rfl (.cons rfl (.cons rfl (.cons rfl (.cons rfl (.cons rfl (.cons rfl (.cons rfl (.cons rfl (.cons rfl (.cons rfl (.cons rfl (.nil)))))))))))))) ?_
  refine M0 (q_call0 rfl rfl (hh) rfl) rfl rfl ?_; refine M0 (q_assignC rfl rfl rfl) rfl rfl ?_; refine L_nil ?_; refine T_n ?_; refine A_seq ?_; refine A_seq ?_; refine A_region ?_
  refine M0 (q_moveC rfl rfl rfl) rfl rfl ?_; refine M0 (q_lssK rfl rfl rfl rfl (by assumption)) rfl rfl ?_; refine L_nil ?_; refine T_n ?_; refine A_ifF rfl ?_; refine A_skip ?_; refine T_n ?_
  refine A_seq ?_; refine A_seq ?_; refine A_region ?_; refine M0 (q_moveC rfl rfl rfl) rfl rfl ?_; refine M0 (q_moveC rfl rfl rfl) rfl rfl ?_; refine M0 (q_neqR rfl rfl rfl rfl) rfl rfl ?_
  refine L_nil ?_; refine T_n ?_; refine A_ifF rfl ?_; refine A_skip ?_; refine T_n ?_; refine A_seq ?_; refine A_region ?_; refine M0 (q_ldN rfl rfl rfl rfl rfl rfl) rfl rfl ?_
  refine AL.weak (st' := (⟨_, [(1, I p), (2, I s), (3, I e), (4, .o (.c (.ptr 0 0))), (10, .o (.c (.ptr 4 0))), (11, B bo), (12, .o (.c (.ptr 6 0))), (13, .o (.c (.ptr 10 0))), (14, B bo), (16, I (1 + rs.length + ([] : List ByteArray).length)), (86, .o (.ag ((Enc.e l).map (V1.rd []))))], [.box ((Enc.e l).map (V1.rd [])), .row 1 (els rs), .row 1 [], .row 1 [], .box [.ref 1, iv p', iv s', iv e', .ref 2, .ref 3], .row 1 (els (markS l.Rows 1)), .box [.ref 5], .row 1 (els (markS rs 1)), .row 1 [], .row 1 [], .box [.ref 7, iv p', iv s', iv e', .ref 8, .ref 9]]⟩ : St)) (W_go [0, 1, 2, 3, 4, 5, 6, 7, 8, 9, 10] (by decide) rfl (rfl) (.cons rfl (.cons rfl (.cons rfl (.cons rfl (.cons rfl (.cons rfl (.cons rfl (.cons rfl (.cons rfl (.cons rfl (.cons rfl (.nil))))))))))))) ?_
  refine M1 (q_call rfl rfl (ht1) rfl rfl rfl) rfl rfl ?_; refine M0 (q_moveC rfl rfl rfl) rfl rfl ?_; refine M0 (q_moveC rfl rfl rfl) rfl rfl ?_
  refine M0 (q_moveC rfl rfl rfl) rfl rfl ?_; refine M1 (q_call rfl rfl (hip) rfl rfl rfl) rfl rfl ?_; refine M0 (q_moveT rfl rfl rfl) rfl rfl ?_
  refine M0 (q_ext rfl rfl rfl rfl) rfl rfl ?_; refine M0 (q_ext rfl rfl rfl rfl) rfl rfl ?_; refine M1 (q_alloc rfl rfl rfl) rfl rfl ?_
  refine M_stN rfl rfl rfl rfl rfl rfl rfl rfl rfl ?_; refine M0 (q_assignC rfl rfl rfl) rfl rfl ?_; refine L_nil ?_; refine T_n ?_; refine A_seq ?_; refine A_seq ?_; refine A_region ?_
  refine M0 (q_ldN rfl rfl rfl rfl rfl rfl) rfl rfl ?_; refine M0 (q_ldN rfl rfl rfl rfl rfl rfl) rfl rfl ?_; refine M0 (q_call0 rfl rfl (hq1) rfl) rfl rfl ?_
  refine M0 (q_not rfl rfl rfl) rfl rfl ?_; refine M0 (q_moveC rfl rfl rfl) rfl rfl ?_; refine M_yes rfl rfl rfl ?_; refine M0 (q_moveC rfl rfl rfl) rfl rfl ?_; refine M_yes rfl rfl rfl ?_
  refine M0 (q_moveC rfl rfl rfl) rfl rfl ?_; refine M_yes rfl rfl rfl ?_; refine M0 (q_bneqR rfl rfl rfl rfl) rfl rfl ?_; refine M0 (q_pickF rfl rfl rfl rfl) rfl rfl ?_; refine L_nil ?_
  refine T_n ?_; refine A_ifF rfl ?_; refine A_skip ?_; refine T_n ?_; refine A_seq ?_; refine A_region ?_; refine M0 (q_assignC rfl rfl rfl) rfl rfl ?_; refine L_nil ?_; refine T_n ?_
  refine A_seq ?_; refine A_region ?_; refine M0 (q_ldN rfl rfl rfl rfl rfl rfl) rfl rfl ?_; refine M0 (q_moveC rfl rfl rfl) rfl rfl ?_
  refine AL.weak (st' := (⟨_, [(1, I p), (2, I s), (3, I e), (4, .o (.c (.ptr 0 0))), (10, .o (.c (.ptr 4 0))), (11, B bo), (12, .o (.c (.ptr 6 0))), (13, .o (.c (.ptr 10 0))), (14, B bo), (16, I (1 + rs.length + ([] : List ByteArray).length)), (103, .o (.ag [.ref 7, iv p', iv s', iv e', .ref 8, .ref 9])), (104, I 1)], [.box ((Enc.e l).map (V1.rd [])), .row 1 (els rs), .row 1 [], .row 1 [], .box [.ref 1, iv p', iv s', iv e', .ref 2, .ref 3], .row 1 (els (markS l.Rows 1)), .box [.ref 5], .row 1 (els (markS rs 1)), .row 1 [], .row 1 [], .box [.ref 7, iv p', iv s', iv e', .ref 8, .ref 9]]⟩ : St)) (W_go [0, 1, 2, 3, 4, 5, 6, 7, 8, 9, 10] (by decide) rfl (rfl) (.cons rfl (.cons rfl (.cons rfl (.cons rfl (.cons rfl (.cons rfl (.cons rfl (.cons rfl (.cons rfl (.cons rfl (.cons rfl (.cons rfl (.nil)))))))))))))) ?_
  refine M0 (q_call0 rfl rfl (hh) rfl) rfl rfl ?_; refine M0 (q_assignC rfl rfl rfl) rfl rfl ?_; refine L_nil ?_; refine T_n ?_; refine A_seq ?_; refine A_seq ?_; refine A_region ?_
  refine M0 (q_moveC rfl rfl rfl) rfl rfl ?_; refine M0 (q_lssK rfl rfl rfl rfl (by assumption)) rfl rfl ?_; refine L_nil ?_; refine T_n ?_; refine A_ifF rfl ?_; refine A_skip ?_; refine T_n ?_
  refine A_seq ?_; refine A_seq ?_; refine A_region ?_; refine M0 (q_moveC rfl rfl rfl) rfl rfl ?_; refine M0 (q_moveC rfl rfl rfl) rfl rfl ?_; refine M0 (q_neqR rfl rfl rfl rfl) rfl rfl ?_
  refine L_nil ?_; refine T_n ?_; refine A_ifF rfl ?_; refine A_skip ?_; refine T_n ?_; refine A_seq ?_; refine A_region ?_; refine M0 (q_assignC rfl rfl rfl) rfl rfl ?_; refine L_nil ?_
  refine T_n ?_; refine A_ret ?_; refine F_r ?_
  exact E_tmp rfl rfl (W_end [] (by decide) rfl rfl rfl)
end Go.Proofs.Ytjkpoffhnccanaa
