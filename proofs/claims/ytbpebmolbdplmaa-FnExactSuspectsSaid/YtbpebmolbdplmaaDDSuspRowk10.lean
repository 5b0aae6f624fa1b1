/-
  Valid worlds: WorldOk, in the program and in the reference.
  Conditions: lists of at most 2^40 elements.
  What a valid peer is. No statement of the program is proved here.
  Conditions: none.
  Numbers as bytes: EncodeVarint, Signless, PackInts, PackText, Checksum, SealText, in the program and in the reference.
  Conditions: lists of at most 2^30 elements.
  Runs of inputs as bytes: PackTrack, and the columns of rows, in the program and in the reference.
  Conditions: at most 400 rows of equal length.
  Comparing replays: what SameReplay and what it calls return, in the program and in the reference.
  Conditions: none.
  Comparing replays, second part: levels and replays.
  Conditions: none.
  Valid tracks, faults and peers, in the program and in the reference.
  Conditions: none.
  PeerOk, in the program and in the reference.
  Conditions: none.
  PeerOk in the reference.
  Conditions: none.
-/
import Derived.Test.YtbpebmolbdplmaaDDSuspRowk8
import Derived.Test.YtbpebmolbdplmaaDDSuspRowk9
section
set_option linter.unusedSimpArgs false
set_option linter.unusedVariables false
set_option maxRecDepth 8000
namespace Go.Proofs.Ytbpebmolbdplmaa
open Go.RowKit

noncomputable def bodyAt (l : TLevel) (n k : Nat) (b : TBody) : Bool := bodyM l n b && (if k < n then decide (b.Kind = 0 ∧ b.Owner = k) else decide (b.Kind ≠ 0))
def bodiesOk (l : TLevel) (n : Nat) (bs : List TBody) : Prop := ∀ (k : Nat) (hk : k < bs.length), bodyAt l n k bs[k] = true
def scoresOk (ss : List Int) : Bool := ss.all fun x => inR x 0 1000000
noncomputable def worldOk (w : TWorld) : Bool := @decide (levelOk w.Level = true ∧ inR w.Tick 0 100000 = true ∧ inR w.Seed 0 65535 = true ∧ (1 ≤ w.Scores.length ∧ w.Scores.length ≤ 4) ∧ scoresOk w.Scores = true ∧ (w.Scores.length ≤ w.Bodies.length ∧ w.Bodies.length ≤ 24) ∧ bodiesOk w.Level w.Scores.length w.Bodies) (Classical.propDecidable _)
theorem worldOk_T {w : TWorld} (h : levelOk w.Level = true ∧ inR w.Tick 0 100000 = true ∧ inR w.Seed 0 65535 = true ∧ (1 ≤ w.Scores.length ∧ w.Scores.length ≤ 4) ∧ scoresOk w.Scores = true ∧ (w.Scores.length ≤ w.Bodies.length ∧ w.Bodies.length ≤ 24) ∧ bodiesOk w.Level w.Scores.length w.Bodies) : worldOk w = true := @decide_eq_true _ (Classical.propDecidable _) h
theorem worldOk_F {w : TWorld} (h : ¬ (levelOk w.Level = true ∧ inR w.Tick 0 100000 = true ∧ inR w.Seed 0 65535 = true ∧ (1 ≤ w.Scores.length ∧ w.Scores.length ≤ 4) ∧ scoresOk w.Scores = true ∧ (w.Scores.length ≤ w.Bodies.length ∧ w.Bodies.length ≤ 24) ∧ bodiesOk w.Level w.Scores.length w.Bodies)) : worldOk w = false := @decide_eq_false _ (Classical.propDecidable _) h
theorem worldOk_spec {w : TWorld} (h : worldOk w = true) : levelOk w.Level = true ∧ inR w.Tick 0 100000 = true ∧ inR w.Seed 0 65535 = true ∧ (1 ≤ w.Scores.length ∧ w.Scores.length ≤ 4) ∧ scoresOk w.Scores = true ∧ (w.Scores.length ≤ w.Bodies.length ∧ w.Bodies.length ≤ 24) ∧ bodiesOk w.Level w.Scores.length w.Bodies := @of_decide_eq_true _ (Classical.propDecidable _) h
theorem score_no {ss : List Int} {k : Nat} (h : k < ss.length) (hn : inR ss[k] 0 1000000 = false) : scoresOk ss = false := by
  rw [scoresOk, ← Bool.not_eq_true, List.all_eq_true]
  intro hh
  rw [hh _ (List.getElem_mem h)] at hn
  cases hn
set_option maxHeartbeats 8000000 in
theorem I_WorldOk (x : TWorld) (hg : Enc.gd x) : Con Try.prog 86 [] [ag x] [] (B (worldOk x)) := by
  obtain ⟨gL, gT, gS, gSc, gB⟩ := hg
  have g1 := gSc.1
  have g2 := gB.1
  have hls := els_len x.Scores
  have hlb := els_len x.Bodies
  have hc := I_LevelOk x.Level gL
  refine Con.of Try.func86 rfl Try.ntmps86 rfl (fun E => ?_)
  refine A_seq ?_; refine A_region ?_; refine M1 (q_boxN rfl rfl rfl rfl) rfl rfl ?_; refine M0 (q_assignC rfl rfl rfl) rfl rfl ?_; refine L_nil ?_; refine T_n ?_; refine A_seq ?_; refine A_seq ?_
  refine A_region ?_; refine M0 (q_fldp rfl rfl rfl rfl (by decide)) rfl rfl ?_; refine M0 (q_ldN rfl rfl rfl rfl rfl rfl) rfl rfl ?_; refine M0 (q_call0 rfl rfl (hc) rfl) rfl rfl ?_
  refine M0 (q_not rfl rfl rfl) rfl rfl ?_; refine M0 (q_moveC rfl rfl rfl) rfl rfl ?_; refine M0 (Qt.grdF rfl rfl rfl .stop (fun hgrd => q_fldp rfl rfl rfl rfl (by decide))) rfl rfl ?_
  refine M0 (Qt.grdF rfl rfl rfl (.hit .stop) (fun hgrd => q_ld1 rfl rfl rfl rfl rfl)) rfl rfl ?_
  refine M0 (Qt.grdF rfl rfl rfl (.hit (.hit .stop)) (fun hgrd => q_call0 rfl rfl (I_between x.Tick 0 100000) rfl)) rfl rfl ?_
  refine M0 (Qt.grdF rfl rfl rfl (.hit (.hit (.hit .stop))) (fun hgrd => q_not rfl rfl rfl)) rfl rfl ?_; refine M0 (q_or rfl rfl rfl rfl) rfl rfl ?_
  refine M0 (q_moveC rfl rfl rfl) rfl rfl ?_; refine M0 (Qt.grdF rfl rfl rfl .stop (fun hgrd => q_fldp rfl rfl rfl rfl (by decide))) rfl rfl ?_
  refine M0 (Qt.grdF rfl rfl rfl (.hit .stop) (fun hgrd => q_ld1 rfl rfl rfl rfl rfl)) rfl rfl ?_
  refine M0 (Qt.grdF rfl rfl rfl (.hit (.hit .stop)) (fun hgrd => q_call0 rfl rfl (I_between x.Seed 0 65535) rfl)) rfl rfl ?_
  refine M0 (Qt.grdF rfl rfl rfl (.hit (.hit (.hit .stop))) (fun hgrd => q_not rfl rfl rfl)) rfl rfl ?_; refine M0 (q_or rfl rfl rfl rfl) rfl rfl ?_; refine L_nil ?_; refine T_n ?_
  refine A_cond rfl (fun h => ?_) (fun h => ?_)
  · simp only [Bool.or_eq_true, Bool.not_eq_true'] at h
    rw [worldOk_F (fun hh => by rcases h with (h | h) | h; rw [hh.1] at h; cases h; rw [hh.2.1] at h; cases h; rw [hh.2.2.1] at h; cases h)]
    refine A_seq ?_; refine A_region ?_; refine M0 (q_assignC rfl rfl rfl) rfl rfl ?_; refine L_nil ?_; refine T_n ?_; refine A_ret ?_; refine T_r ?_; refine F_r ?_
    exact E_tmp rfl rfl (W_end [] (by decide) rfl rfl rfl)
  simp only [Bool.or_eq_false_iff, Bool.not_eq_false'] at h
  obtain ⟨⟨hL, hT⟩, hS⟩ := h
  refine A_skip ?_; refine T_n ?_; refine A_seq ?_; refine A_region ?_; refine M0 (q_fldp rfl rfl rfl rfl (by decide)) rfl rfl ?_; refine M0 (q_ld1 rfl rfl rfl rfl rfl) rfl rfl ?_
  refine M0 (q_len rfl rfl rfl) rfl rfl ?_; refine M0 (q_assignC rfl rfl rfl) rfl rfl ?_; refine L_nil ?_; refine T_n ?_; refine A_seq ?_; refine A_seq ?_; refine A_region ?_
  refine M0 (q_moveC rfl rfl rfl) rfl rfl ?_; refine M0 (q_lss rfl rfl rfl rfl) rfl rfl ?_; refine M0 (q_moveC rfl rfl rfl) rfl rfl ?_
  refine M0 (Qt.grdF rfl rfl rfl .stop (fun hgrd => q_moveC rfl rfl rfl)) rfl rfl ?_; refine M0 (Qt.grdF rfl rfl rfl (.hit .stop) (fun hgrd => q_gtr rfl rfl rfl rfl)) rfl rfl ?_
  refine M0 (q_or rfl rfl rfl rfl) rfl rfl ?_; refine L_nil ?_; refine T_n ?_
  refine A_cond rfl (fun h => ?_) (fun h => ?_)
  · simp only [Bool.or_eq_true, decide_eq_true_eq] at h
    rw [worldOk_F (fun hh => by have := hh.2.2.2.1; omega)]
    refine A_seq ?_; refine A_region ?_; refine M0 (q_assignC rfl rfl rfl) rfl rfl ?_; refine L_nil ?_; refine T_n ?_; refine A_ret ?_; refine T_r ?_; refine F_r ?_
    exact E_tmp rfl rfl (W_end [] (by decide) rfl rfl rfl)
  simp only [Bool.or_eq_false_iff, decide_eq_false_iff_not] at h
  refine A_skip ?_; refine T_n ?_; refine A_seq ?_; refine A_seq ?_; refine A_region ?_; refine M0 (q_fldp rfl rfl rfl rfl (by decide)) rfl rfl ?_
  refine M0 (q_ld1 rfl rfl rfl rfl rfl) rfl rfl ?_; refine M0 (q_len rfl rfl rfl) rfl rfl ?_; refine M0 (q_moveC rfl rfl rfl) rfl rfl ?_; refine L_nil ?_; refine T_n ?_; refine A_block ?_
  refine A_loop (fun m st => ∃ k : Nat, k + m = x.Scores.length ∧ ((x.Scores.take k).all (fun y => inR y 0 1000000) = true) ∧ st = (fun k : Nat => (⟨_, [(1, .o (.c (.ptr 0 0))), (3, I (els x.Scores).length), (34, L x.Scores), (35, I (els x.Scores).length), (36, I k)], [.box ((Enc.e x).map (V1.rd []))]⟩ : St)) k) (x.Scores.length) ⟨(fun k : Nat => (⟨_, [(1, .o (.c (.ptr 0 0))), (3, I (els x.Scores).length), (34, L x.Scores), (35, I (els x.Scores).length), (36, I k)], [.box ((Enc.e x).map (V1.rd []))]⟩ : St)) 0, W_go [0] (by decide) rfl (rfl) (.cons rfl (.cons rfl (.cons rfl (.cons rfl (.cons rfl (.nil)))))), 0, by omega, by simp, rfl⟩ ?_
  rintro m_A _ ⟨k, hk_A, hp_A, rfl⟩
  refine A_seq ?_; refine A_region ?_; refine M0 (q_lss rfl rfl rfl rfl) rfl rfl ?_; refine L_nil ?_; refine T_n ?_; refine A_seq ?_
  refine A_cond rfl (fun h3 => ?_) (fun h3 => ?_)
  · have h3 : k < x.Scores.length := by have := of_decide_eq_true h3; omega
    have hat := els_at h3
    cases e : inR x.Scores[k] 0 1000000 with
    | false =>
      have hb := I_between x.Scores[k] 0 1000000
      rw [e] at hb
      rw [worldOk_F (fun hh => by have h9 := hh.2.2.2.2.1; rw [score_no h3 e] at h9; cases h9)]
      refine A_skip ?_; refine T_n ?_; refine A_seq ?_; refine A_block ?_; refine A_seq ?_; refine A_region ?_; refine M0 (q_at rfl rfl rfl rfl (by omega) (by assumption) rfl) rfl rfl ?_
      refine M0 (q_lr1 rfl rfl rfl rfl) rfl rfl ?_; refine M0 (q_assignC rfl rfl rfl) rfl rfl ?_; refine L_nil ?_; refine T_n ?_; refine A_seq ?_; refine A_region ?_
      refine M0 (q_moveC rfl rfl rfl) rfl rfl ?_; refine M0 (q_call0 rfl rfl (hb) rfl) rfl rfl ?_; refine M0 (q_not rfl rfl rfl) rfl rfl ?_; refine L_nil ?_; refine T_n ?_; refine A_ifT rfl ?_
      refine A_seq ?_; refine A_region ?_; refine M0 (q_assignC rfl rfl rfl) rfl rfl ?_; refine L_nil ?_; refine T_n ?_; refine A_ret ?_; refine B_r ?_; refine T_r ?_; refine T_r ?_; refine B_r ?_
      refine T_r ?_; refine F_r ?_
      exact E_tmp rfl rfl (W_end [] (by decide) rfl rfl rfl)
    | true =>
      have hb := I_between x.Scores[k] 0 1000000
      rw [e] at hb
      refine A_skip ?_; refine T_n ?_; refine A_seq ?_; refine A_block ?_; refine A_seq ?_; refine A_region ?_; refine M0 (q_at rfl rfl rfl rfl (by omega) (by assumption) rfl) rfl rfl ?_
      refine M0 (q_lr1 rfl rfl rfl rfl) rfl rfl ?_; refine M0 (q_assignC rfl rfl rfl) rfl rfl ?_; refine L_nil ?_; refine T_n ?_; refine A_seq ?_; refine A_region ?_
      refine M0 (q_moveC rfl rfl rfl) rfl rfl ?_; refine M0 (q_call0 rfl rfl (hb) rfl) rfl rfl ?_; refine M0 (q_not rfl rfl rfl) rfl rfl ?_; refine L_nil ?_; refine T_n ?_; refine A_ifF rfl ?_
      refine A_skip ?_; refine B_n ?_; refine T_n ?_; refine A_region ?_; refine M0 (q_add rfl rfl rfl rfl (by omega)) rfl rfl ?_; refine M0 (q_moveC rfl rfl rfl) rfl rfl ?_; refine L_nil ?_
      refine T_n ?_
      exact ⟨x.Scores.length - (k + 1), by omega, (fun k : Nat => (⟨_, [(1, .o (.c (.ptr 0 0))), (3, I (els x.Scores).length), (34, L x.Scores), (35, I (els x.Scores).length), (36, I k)], [.box ((Enc.e x).map (V1.rd []))]⟩ : St)) (k + 1), W_go [0] (by decide) rfl (rfl) (.cons rfl (.cons rfl (.cons rfl (.cons rfl (.cons rfl (.nil)))))), k + 1, by omega, all_next hp_A h3 e, rfl⟩
  have h3 : ¬ k < x.Scores.length := by have := of_decide_eq_false h3; omega
  have hall : scoresOk x.Scores = true := all_end hp_A (by omega)
  refine A_exit ?_; refine T_x ?_; refine T_x ?_; refine B_xs ?_; refine T_n ?_; refine A_seq ?_; refine A_seq ?_; refine A_region ?_; refine M0 (q_fldp rfl rfl rfl rfl (by decide)) rfl rfl ?_
  refine M0 (q_ld1 rfl rfl rfl rfl rfl) rfl rfl ?_; refine M0 (q_len rfl rfl rfl) rfl rfl ?_; refine M0 (q_moveC rfl rfl rfl) rfl rfl ?_; refine M0 (q_lss rfl rfl rfl rfl) rfl rfl ?_
  refine M0 (q_moveC rfl rfl rfl) rfl rfl ?_; refine M0 (Qt.grdF rfl rfl rfl .stop (fun hgrd => q_fldp rfl rfl rfl rfl (by decide))) rfl rfl ?_
  refine M0 (Qt.grdF rfl rfl rfl (.hit .stop) (fun hgrd => q_ld1 rfl rfl rfl rfl rfl)) rfl rfl ?_
  refine M0 (Qt.grdF rfl rfl rfl (.hit (.hit .stop)) (fun hgrd => q_len rfl rfl rfl)) rfl rfl ?_
  refine M0 (Qt.grdF rfl rfl rfl (.hit (.hit (.hit .stop))) (fun hgrd => q_gtr rfl rfl rfl rfl)) rfl rfl ?_; refine M0 (q_or rfl rfl rfl rfl) rfl rfl ?_; refine L_nil ?_; refine T_n ?_
  refine A_cond rfl (fun h5 => ?_) (fun h5 => ?_)
  · simp only [Bool.or_eq_true, decide_eq_true_eq] at h5
    rw [worldOk_F (fun hh => by have := hh.2.2.2.2.2.1; omega)]
    refine A_seq ?_; refine A_region ?_; refine M0 (q_assignC rfl rfl rfl) rfl rfl ?_; refine L_nil ?_; refine T_n ?_; refine A_ret ?_; refine T_r ?_; refine F_r ?_
    exact E_tmp rfl rfl (W_end [] (by decide) rfl rfl rfl)
  simp only [Bool.or_eq_false_iff, decide_eq_false_iff_not] at h5
  refine A_skip ?_; refine T_n ?_; refine A_seq ?_; refine A_seq ?_; refine A_region ?_; refine M0 (q_fldp rfl rfl rfl rfl (by decide)) rfl rfl ?_
  refine M0 (q_ld1 rfl rfl rfl rfl rfl) rfl rfl ?_; refine M0 (q_len rfl rfl rfl) rfl rfl ?_; refine M0 (q_moveC rfl rfl rfl) rfl rfl ?_; refine L_nil ?_; refine T_n ?_; refine A_block ?_
  refine A_loop (fun m st => ∃ k : Nat, k + m = x.Bodies.length ∧ ((∀ (j : Nat) (hj : j < x.Bodies.length), j < k → bodyAt x.Level x.Scores.length j x.Bodies[j] = true)) ∧ st = (fun k : Nat => (⟨_, [(1, .o (.c (.ptr 0 0))), (3, I (els x.Scores).length), (56, L x.Bodies), (57, I (els x.Bodies).length), (58, I k)], [.box ((Enc.e x).map (V1.rd []))]⟩ : St)) k) (x.Bodies.length) ⟨(fun k : Nat => (⟨_, [(1, .o (.c (.ptr 0 0))), (3, I (els x.Scores).length), (56, L x.Bodies), (57, I (els x.Bodies).length), (58, I k)], [.box ((Enc.e x).map (V1.rd []))]⟩ : St)) 0, W_go [0] (by decide) rfl (rfl) (.cons rfl (.cons rfl (.cons rfl (.cons rfl (.cons rfl (.nil)))))), 0, by omega, fun j hj h0 => by omega, rfl⟩ ?_
  rintro m_C _ ⟨k, hk_C, hp_C, rfl⟩
  refine A_seq ?_; refine A_region ?_; refine M0 (q_lss rfl rfl rfl rfl) rfl rfl ?_; refine L_nil ?_; refine T_n ?_; refine A_seq ?_
  refine A_cond rfl (fun h6 => ?_) (fun h6 => ?_)
  · have h6 : k < x.Bodies.length := by have := of_decide_eq_true h6; omega
    have hat := els_at h6
    have gb := gB.2 _ (List.getElem_mem h6)
    have hb := I_BodyOk x.Level (els x.Scores).length x.Bodies[k] gL gb (by omega)
    rw [hL, Bool.true_and] at hb
    have hlen : ((els x.Scores).length : Int) = (x.Scores.length : Int) := by rw [hls]
    cases e : bodyM x.Level (els x.Scores).length x.Bodies[k] with
    | false =>
      rw [e] at hb
      rw [worldOk_F (fun hh => by have h9 := hh.2.2.2.2.2.2 k h6; rw [bodyAt, ← hlen, e] at h9; cases h9)]
      refine A_skip ?_; refine T_n ?_; refine A_seq ?_; refine A_block ?_; refine A_seq ?_; refine A_region ?_; refine M0 (q_moveC rfl rfl rfl) rfl rfl ?_
      refine M0 (q_at rfl rfl rfl rfl (by omega) (by assumption) rfl) rfl rfl ?_; refine M0 (q_lrN rfl rfl rfl rfl rfl) rfl rfl ?_; refine M1 (q_alloc rfl rfl rfl) rfl rfl ?_
      refine M0 (q_assignC rfl rfl rfl) rfl rfl ?_; refine M_stN rfl rfl rfl rfl rfl rfl rfl rfl rfl ?_; refine L_nil ?_; refine T_n ?_; refine A_seq ?_; refine A_seq ?_; refine A_region ?_
      refine M0 (q_fldp rfl rfl rfl rfl (by decide)) rfl rfl ?_; refine M0 (q_ldN rfl rfl rfl rfl rfl rfl) rfl rfl ?_; refine M0 (q_moveC rfl rfl rfl) rfl rfl ?_
      refine M0 (q_ldN rfl rfl rfl rfl rfl rfl) rfl rfl ?_; refine M0 (q_call0 rfl rfl (hb) rfl) rfl rfl ?_; refine M0 (q_not rfl rfl rfl) rfl rfl ?_; refine L_nil ?_; refine T_n ?_
      refine A_ifT rfl ?_; refine A_seq ?_; refine A_region ?_; refine M0 (q_assignC rfl rfl rfl) rfl rfl ?_; refine L_nil ?_; refine T_n ?_; refine A_ret ?_; refine T_r ?_; refine B_r ?_; refine T_r ?_
      refine T_r ?_; refine B_r ?_; refine T_r ?_; refine F_r ?_
      exact E_tmp rfl rfl (W_end [] (by decide) rfl rfl rfl)
    | true =>
      rw [e] at hb
      rw [hlen] at e
      by_cases hkn : (k : Int) < (els x.Scores).length
      · have hd : decide ((k : Int) < (els x.Scores).length) = true := decide_eq_true hkn
        have hd2 : decide (((els x.Scores).length : Int) ≤ k) = false := decide_eq_false (by omega)
        refine A_skip ?_; refine T_n ?_; refine A_seq ?_; refine A_block ?_; refine A_seq ?_; refine A_region ?_; refine M0 (q_moveC rfl rfl rfl) rfl rfl ?_
        refine M0 (q_at rfl rfl rfl rfl (by omega) (by assumption) rfl) rfl rfl ?_; refine M0 (q_lrN rfl rfl rfl rfl rfl) rfl rfl ?_; refine M1 (q_alloc rfl rfl rfl) rfl rfl ?_
        refine M0 (q_assignC rfl rfl rfl) rfl rfl ?_; refine M_stN rfl rfl rfl rfl rfl rfl rfl rfl rfl ?_; refine L_nil ?_; refine T_n ?_; refine A_seq ?_; refine A_seq ?_; refine A_region ?_
        refine M0 (q_fldp rfl rfl rfl rfl (by decide)) rfl rfl ?_; refine M0 (q_ldN rfl rfl rfl rfl rfl rfl) rfl rfl ?_; refine M0 (q_moveC rfl rfl rfl) rfl rfl ?_
        refine M0 (q_ldN rfl rfl rfl rfl rfl rfl) rfl rfl ?_; refine M0 (q_call0 rfl rfl (hb) rfl) rfl rfl ?_; refine M0 (q_not rfl rfl rfl) rfl rfl ?_; refine L_nil ?_; refine T_n ?_
        refine A_ifF rfl ?_; refine A_skip ?_; refine T_n ?_; refine A_seq ?_; refine A_seq ?_; refine A_region ?_; refine M0 (q_moveC rfl rfl rfl) rfl rfl ?_; refine M0 (q_moveC rfl rfl rfl) rfl rfl ?_
        refine M0 (q_lssK rfl rfl rfl rfl (by assumption)) rfl rfl ?_; refine M0 (q_moveC rfl rfl rfl) rfl rfl ?_; refine M_yes rfl rfl rfl ?_
        refine M0 (q_fldp rfl rfl rfl rfl (by decide)) rfl rfl ?_; refine M_yes rfl rfl rfl ?_; refine M0 (q_ld1 rfl rfl rfl rfl rfl) rfl rfl ?_; refine M_yes rfl rfl rfl ?_
        refine M0 (q_neq rfl rfl rfl rfl) rfl rfl ?_; refine M_yes rfl rfl rfl ?_; refine M0 (q_moveC rfl rfl rfl) rfl rfl ?_
        refine M0 (Qt.grdF rfl rfl rfl .stop (fun hgrd => q_fldp rfl rfl rfl rfl (by decide))) rfl rfl ?_
        refine M0 (Qt.grdF rfl rfl rfl (.hit .stop) (fun hgrd => q_ld1 rfl rfl rfl rfl rfl)) rfl rfl ?_
        refine M0 (Qt.grdF rfl rfl rfl (.hit (.hit .stop)) (fun hgrd => q_moveC rfl rfl rfl)) rfl rfl ?_
        refine M0 (Qt.grdF rfl rfl rfl (.hit (.hit (.hit .stop))) (fun hgrd => q_neq rfl rfl rfl rfl)) rfl rfl ?_; refine M_yes rfl rfl rfl ?_; refine M0 (q_or rfl rfl rfl rfl) rfl rfl ?_
        refine M0 (q_pickT rfl rfl rfl rfl) rfl rfl ?_; refine L_nil ?_; refine T_n ?_
        refine A_cond rfl (fun h7 => ?_) (fun h7 => ?_)
        · simp only [Bool.or_eq_true, decide_eq_true_eq] at h7
          rw [worldOk_F (fun hh => by have h9 := hh.2.2.2.2.2.2 k h6; rw [bodyAt, e, if_pos (by omega)] at h9; have := of_decide_eq_true h9; omega)]
          refine A_seq ?_; refine A_region ?_; refine M0 (q_assignC rfl rfl rfl) rfl rfl ?_; refine L_nil ?_; refine T_n ?_; refine A_ret ?_; refine T_r ?_; refine B_r ?_; refine T_r ?_; refine T_r ?_
          refine B_r ?_; refine T_r ?_; refine F_r ?_
          exact E_tmp rfl rfl (W_end [] (by decide) rfl rfl rfl)
        · simp only [Bool.or_eq_false_iff, decide_eq_false_iff_not] at h7
          refine A_skip ?_; refine T_n ?_; refine A_seq ?_; refine A_region ?_; refine M0 (q_moveC rfl rfl rfl) rfl rfl ?_; refine M0 (q_moveC rfl rfl rfl) rfl rfl ?_
          refine M0 (q_geqK rfl rfl rfl rfl (by assumption)) rfl rfl ?_; refine M0 (q_moveC rfl rfl rfl) rfl rfl ?_; refine M_no rfl rfl rfl rfl rfl rfl ?_; refine M_no rfl rfl rfl rfl rfl rfl ?_
          refine M_no rfl rfl rfl rfl rfl rfl ?_; refine M0 (q_pickF rfl rfl rfl rfl) rfl rfl ?_; refine L_nil ?_; refine T_n ?_; refine A_ifF rfl ?_; refine A_skip ?_; refine B_n ?_; refine T_n ?_
          refine A_region ?_; refine M0 (q_add rfl rfl rfl rfl (by omega)) rfl rfl ?_; refine M0 (q_moveC rfl rfl rfl) rfl rfl ?_; refine L_nil ?_; refine T_n ?_
          exact ⟨x.Bodies.length - (k + 1), by omega, (fun k : Nat => (⟨_, [(1, .o (.c (.ptr 0 0))), (3, I (els x.Scores).length), (56, L x.Bodies), (57, I (els x.Bodies).length), (58, I k)], [.box ((Enc.e x).map (V1.rd []))]⟩ : St)) (k + 1), W_go [0] (by decide) rfl (rfl) (.cons rfl (.cons rfl (.cons rfl (.cons rfl (.cons rfl (.nil)))))), k + 1, by omega, fun j hj h0 => by by_cases hjk : j = k; subst hjk; rw [bodyAt, e, if_pos (by omega)]; exact decide_eq_true (by omega); exact hp_C j hj (by omega), rfl⟩
      · have hd : decide ((k : Int) < (els x.Scores).length) = false := decide_eq_false hkn
        have hd2 : decide (((els x.Scores).length : Int) ≤ k) = true := decide_eq_true (by omega)
        by_cases k0 : x.Bodies[k].Kind = 0
        · have hd3 : decide (x.Bodies[k].Kind = 0) = true := decide_eq_true k0
          rw [worldOk_F (fun hh => by have h9 := hh.2.2.2.2.2.2 k h6; rw [bodyAt, e, if_neg (by omega)] at h9; have := of_decide_eq_true h9; omega)]
          refine A_skip ?_; refine T_n ?_; refine A_seq ?_; refine A_block ?_; refine A_seq ?_; refine A_region ?_; refine M0 (q_moveC rfl rfl rfl) rfl rfl ?_
          refine M0 (q_at rfl rfl rfl rfl (by omega) (by assumption) rfl) rfl rfl ?_; refine M0 (q_lrN rfl rfl rfl rfl rfl) rfl rfl ?_; refine M1 (q_alloc rfl rfl rfl) rfl rfl ?_
          refine M0 (q_assignC rfl rfl rfl) rfl rfl ?_; refine M_stN rfl rfl rfl rfl rfl rfl rfl rfl rfl ?_; refine L_nil ?_; refine T_n ?_; refine A_seq ?_; refine A_seq ?_; refine A_region ?_
          refine M0 (q_fldp rfl rfl rfl rfl (by decide)) rfl rfl ?_; refine M0 (q_ldN rfl rfl rfl rfl rfl rfl) rfl rfl ?_; refine M0 (q_moveC rfl rfl rfl) rfl rfl ?_
          refine M0 (q_ldN rfl rfl rfl rfl rfl rfl) rfl rfl ?_; refine M0 (q_call0 rfl rfl (hb) rfl) rfl rfl ?_; refine M0 (q_not rfl rfl rfl) rfl rfl ?_; refine L_nil ?_; refine T_n ?_
          refine A_ifF rfl ?_; refine A_skip ?_; refine T_n ?_; refine A_seq ?_; refine A_seq ?_; refine A_region ?_; refine M0 (q_moveC rfl rfl rfl) rfl rfl ?_; refine M0 (q_moveC rfl rfl rfl) rfl rfl ?_
          refine M0 (q_lssK rfl rfl rfl rfl (by assumption)) rfl rfl ?_; refine M0 (q_moveC rfl rfl rfl) rfl rfl ?_; refine M_no rfl rfl rfl rfl rfl rfl ?_; refine M_no rfl rfl rfl rfl rfl rfl ?_
          refine M_no rfl rfl rfl rfl rfl rfl ?_; refine M_no rfl rfl rfl rfl rfl rfl ?_; refine M0 (Qt.no2 rfl rfl rfl) rfl rfl ?_; refine M0 (Qt.no2 rfl rfl rfl) rfl rfl ?_
          refine M0 (Qt.no2 rfl rfl rfl) rfl rfl ?_; refine M0 (Qt.no2 rfl rfl rfl) rfl rfl ?_; refine M_no rfl rfl rfl rfl rfl rfl ?_; refine M0 (q_pickF rfl rfl rfl rfl) rfl rfl ?_
          refine L_nil ?_; refine T_n ?_; refine A_ifF rfl ?_; refine A_skip ?_; refine T_n ?_; refine A_seq ?_; refine A_region ?_; refine M0 (q_moveC rfl rfl rfl) rfl rfl ?_
          refine M0 (q_moveC rfl rfl rfl) rfl rfl ?_; refine M0 (q_geqK rfl rfl rfl rfl (by assumption)) rfl rfl ?_; refine M0 (q_moveC rfl rfl rfl) rfl rfl ?_; refine M_yes rfl rfl rfl ?_
          refine M0 (q_fldp rfl rfl rfl rfl (by decide)) rfl rfl ?_; refine M_yes rfl rfl rfl ?_; refine M0 (q_ld1 rfl rfl rfl rfl rfl) rfl rfl ?_; refine M_yes rfl rfl rfl ?_
          refine M0 (q_eqlK rfl rfl rfl rfl (by assumption)) rfl rfl ?_; refine M0 (q_pickT rfl rfl rfl rfl) rfl rfl ?_; refine L_nil ?_; refine T_n ?_; refine A_ifT rfl ?_; refine A_seq ?_
          refine A_region ?_; refine M0 (q_assignC rfl rfl rfl) rfl rfl ?_; refine L_nil ?_; refine T_n ?_; refine A_ret ?_; refine B_r ?_; refine T_r ?_; refine T_r ?_; refine B_r ?_; refine T_r ?_
          refine F_r ?_
          exact E_tmp rfl rfl (W_end [] (by decide) rfl rfl rfl)
        · have hd3 : decide (x.Bodies[k].Kind = 0) = false := decide_eq_false k0
          refine A_skip ?_; refine T_n ?_; refine A_seq ?_; refine A_block ?_; refine A_seq ?_; refine A_region ?_; refine M0 (q_moveC rfl rfl rfl) rfl rfl ?_
          refine M0 (q_at rfl rfl rfl rfl (by omega) (by assumption) rfl) rfl rfl ?_; refine M0 (q_lrN rfl rfl rfl rfl rfl) rfl rfl ?_; refine M1 (q_alloc rfl rfl rfl) rfl rfl ?_
          refine M0 (q_assignC rfl rfl rfl) rfl rfl ?_; refine M_stN rfl rfl rfl rfl rfl rfl rfl rfl rfl ?_; refine L_nil ?_; refine T_n ?_; refine A_seq ?_; refine A_seq ?_; refine A_region ?_
          refine M0 (q_fldp rfl rfl rfl rfl (by decide)) rfl rfl ?_; refine M0 (q_ldN rfl rfl rfl rfl rfl rfl) rfl rfl ?_; refine M0 (q_moveC rfl rfl rfl) rfl rfl ?_
          refine M0 (q_ldN rfl rfl rfl rfl rfl rfl) rfl rfl ?_; refine M0 (q_call0 rfl rfl (hb) rfl) rfl rfl ?_; refine M0 (q_not rfl rfl rfl) rfl rfl ?_; refine L_nil ?_; refine T_n ?_
          refine A_ifF rfl ?_; refine A_skip ?_; refine T_n ?_; refine A_seq ?_; refine A_seq ?_; refine A_region ?_; refine M0 (q_moveC rfl rfl rfl) rfl rfl ?_; refine M0 (q_moveC rfl rfl rfl) rfl rfl ?_
          refine M0 (q_lssK rfl rfl rfl rfl (by assumption)) rfl rfl ?_; refine M0 (q_moveC rfl rfl rfl) rfl rfl ?_; refine M_no rfl rfl rfl rfl rfl rfl ?_; refine M_no rfl rfl rfl rfl rfl rfl ?_
          refine M_no rfl rfl rfl rfl rfl rfl ?_; refine M_no rfl rfl rfl rfl rfl rfl ?_; refine M0 (Qt.no2 rfl rfl rfl) rfl rfl ?_; refine M0 (Qt.no2 rfl rfl rfl) rfl rfl ?_
          refine M0 (Qt.no2 rfl rfl rfl) rfl rfl ?_; refine M0 (Qt.no2 rfl rfl rfl) rfl rfl ?_; refine M_no rfl rfl rfl rfl rfl rfl ?_; refine M0 (q_pickF rfl rfl rfl rfl) rfl rfl ?_
          refine L_nil ?_; refine T_n ?_; refine A_ifF rfl ?_; refine A_skip ?_; refine T_n ?_; refine A_seq ?_; refine A_region ?_; refine M0 (q_moveC rfl rfl rfl) rfl rfl ?_
          refine M0 (q_moveC rfl rfl rfl) rfl rfl ?_; refine M0 (q_geqK rfl rfl rfl rfl (by assumption)) rfl rfl ?_; refine M0 (q_moveC rfl rfl rfl) rfl rfl ?_; refine M_yes rfl rfl rfl ?_
          refine M0 (q_fldp rfl rfl rfl rfl (by decide)) rfl rfl ?_; refine M_yes rfl rfl rfl ?_; refine M0 (q_ld1 rfl rfl rfl rfl rfl) rfl rfl ?_; refine M_yes rfl rfl rfl ?_
          refine M0 (q_eqlK rfl rfl rfl rfl (by assumption)) rfl rfl ?_; refine M0 (q_pickT rfl rfl rfl rfl) rfl rfl ?_; refine L_nil ?_; refine T_n ?_; refine A_ifF rfl ?_; refine A_skip ?_
          refine B_n ?_; refine T_n ?_; refine A_region ?_; refine M0 (q_add rfl rfl rfl rfl (by omega)) rfl rfl ?_; refine M0 (q_moveC rfl rfl rfl) rfl rfl ?_; refine L_nil ?_; refine T_n ?_
          exact ⟨x.Bodies.length - (k + 1), by omega, (fun k : Nat => (⟨_, [(1, .o (.c (.ptr 0 0))), (3, I (els x.Scores).length), (56, L x.Bodies), (57, I (els x.Bodies).length), (58, I k)], [.box ((Enc.e x).map (V1.rd []))]⟩ : St)) (k + 1), W_go [0] (by decide) rfl (rfl) (.cons rfl (.cons rfl (.cons rfl (.cons rfl (.cons rfl (.nil)))))), k + 1, by omega, fun j hj h0 => by by_cases hjk : j = k; subst hjk; rw [bodyAt, e, if_neg (by omega)]; exact decide_eq_true k0; exact hp_C j hj (by omega), rfl⟩
  have h6 : ¬ k < x.Bodies.length := by have := of_decide_eq_false h6; omega
  rw [worldOk_T ⟨hL, hT, hS, by omega, hall, by omega, fun j hj => hp_C j hj (by omega)⟩]
  refine A_exit ?_; refine T_x ?_; refine T_x ?_; refine B_xs ?_; refine T_n ?_; refine A_seq ?_; refine A_region ?_; refine M0 (q_assignC rfl rfl rfl) rfl rfl ?_; refine L_nil ?_; refine T_n ?_
  refine A_ret ?_; refine F_r ?_
  exact E_tmp rfl rfl (W_end [] (by decide) rfl rfl rfl)
set_option maxHeartbeats 8000000 in
theorem S_WorldOk (x : TWorld) (hg : Enc.gd x) : Con Try.prog 75 [] [ag x] [] (B (worldOk x)) := by
  obtain ⟨gL, gT, gS, gSc, gB⟩ := hg
  have g1 := gSc.1
  have g2 := gB.1
  have hls := els_len x.Scores
  have hlb := els_len x.Bodies
  have hc := S_LevelOk x.Level gL
  refine Con.of Try.func75 rfl Try.ntmps75 rfl (fun E => ?_)
  refine A_seq ?_; refine A_region ?_; refine M1 (q_boxN rfl rfl rfl rfl) rfl rfl ?_; refine M0 (q_assignC rfl rfl rfl) rfl rfl ?_; refine L_nil ?_; refine T_n ?_; refine A_seq ?_
  refine A_region ?_; refine M0 (q_fldp rfl rfl rfl rfl (by decide)) rfl rfl ?_; refine M0 (q_ld1 rfl rfl rfl rfl rfl) rfl rfl ?_; refine M0 (q_len rfl rfl rfl) rfl rfl ?_
  refine M0 (q_assignC rfl rfl rfl) rfl rfl ?_; refine L_nil ?_; refine T_n ?_; refine A_seq ?_; refine A_seq ?_; refine A_region ?_; refine M0 (q_fldp rfl rfl rfl rfl (by decide)) rfl rfl ?_
  refine M0 (q_ldN rfl rfl rfl rfl rfl rfl) rfl rfl ?_; refine M0 (q_call0 rfl rfl (hc) rfl) rfl rfl ?_; refine M0 (q_not rfl rfl rfl) rfl rfl ?_
  refine M0 (q_moveC rfl rfl rfl) rfl rfl ?_; refine M0 (Qt.grdF rfl rfl rfl .stop (fun hgrd => q_fldp rfl rfl rfl rfl (by decide))) rfl rfl ?_
  refine M0 (Qt.grdF rfl rfl rfl (.hit .stop) (fun hgrd => q_ld1 rfl rfl rfl rfl rfl)) rfl rfl ?_
  refine M0 (Qt.grdF rfl rfl rfl (.hit (.hit .stop)) (fun hgrd => q_call0 rfl rfl (S_in x.Tick 0 100000) rfl)) rfl rfl ?_
  refine M0 (Qt.grdF rfl rfl rfl (.hit (.hit (.hit .stop))) (fun hgrd => q_not rfl rfl rfl)) rfl rfl ?_; refine M0 (q_or rfl rfl rfl rfl) rfl rfl ?_
  refine M0 (q_moveC rfl rfl rfl) rfl rfl ?_; refine M0 (Qt.grdF rfl rfl rfl .stop (fun hgrd => q_fldp rfl rfl rfl rfl (by decide))) rfl rfl ?_
  refine M0 (Qt.grdF rfl rfl rfl (.hit .stop) (fun hgrd => q_ld1 rfl rfl rfl rfl rfl)) rfl rfl ?_
  refine M0 (Qt.grdF rfl rfl rfl (.hit (.hit .stop)) (fun hgrd => q_call0 rfl rfl (S_in x.Seed 0 65535) rfl)) rfl rfl ?_
  refine M0 (Qt.grdF rfl rfl rfl (.hit (.hit (.hit .stop))) (fun hgrd => q_not rfl rfl rfl)) rfl rfl ?_; refine M0 (q_or rfl rfl rfl rfl) rfl rfl ?_
  refine M0 (q_moveC rfl rfl rfl) rfl rfl ?_; refine M0 (Qt.grdF rfl rfl rfl .stop (fun hgrd => q_moveC rfl rfl rfl)) rfl rfl ?_
  refine M0 (Qt.grdF rfl rfl rfl (.hit .stop) (fun hgrd => q_call0 rfl rfl (S_in (els x.Scores).length 1 4) rfl)) rfl rfl ?_
  refine M0 (Qt.grdF rfl rfl rfl (.hit (.hit .stop)) (fun hgrd => q_not rfl rfl rfl)) rfl rfl ?_; refine M0 (q_or rfl rfl rfl rfl) rfl rfl ?_; refine M0 (q_moveC rfl rfl rfl) rfl rfl ?_
  refine M0 (Qt.grdF rfl rfl rfl .stop (fun hgrd => q_fldp rfl rfl rfl rfl (by decide))) rfl rfl ?_
  refine M0 (Qt.grdF rfl rfl rfl (.hit .stop) (fun hgrd => q_ld1 rfl rfl rfl rfl rfl)) rfl rfl ?_
  refine M0 (Qt.grdF rfl rfl rfl (.hit (.hit .stop)) (fun hgrd => q_len rfl rfl rfl)) rfl rfl ?_
  refine M0 (Qt.grdF rfl rfl rfl (.hit (.hit (.hit .stop))) (fun hgrd => q_moveC rfl rfl rfl)) rfl rfl ?_
  refine M0 (Qt.grdF rfl rfl rfl (.hit (.hit (.hit (.hit .stop)))) (fun hgrd => q_call0 rfl rfl (S_in (els x.Bodies).length (els x.Scores).length 24) rfl)) rfl rfl ?_
  refine M0 (Qt.grdF rfl rfl rfl (.hit (.hit (.hit (.hit (.hit .stop))))) (fun hgrd => q_not rfl rfl rfl)) rfl rfl ?_; refine M0 (q_or rfl rfl rfl rfl) rfl rfl ?_; refine L_nil ?_
  refine T_n ?_
  refine A_cond rfl (fun h => ?_) (fun h => ?_)
  · simp only [Bool.or_eq_true, Bool.not_eq_true'] at h
    rw [worldOk_F (fun hh => by rcases h with (((h | h) | h) | h) | h; rw [hh.1] at h; cases h; rw [hh.2.1] at h; cases h; rw [hh.2.2.1] at h; cases h; rw [← Bool.not_eq_true, inR_iff] at h; have := hh.2.2.2.1; omega; rw [← Bool.not_eq_true, inR_iff] at h; have := hh.2.2.2.2.2.1; omega)]
    refine A_seq ?_; refine A_region ?_; refine M0 (q_assignC rfl rfl rfl) rfl rfl ?_; refine L_nil ?_; refine T_n ?_; refine A_ret ?_; refine T_r ?_; refine F_r ?_
    exact E_tmp rfl rfl (W_end [] (by decide) rfl rfl rfl)
  simp only [Bool.or_eq_false_iff, Bool.not_eq_false'] at h
  obtain ⟨⟨⟨⟨hL, hT⟩, hS⟩, hN⟩, hB⟩ := h
  have hN := inR_iff.1 hN
  have hB := inR_iff.1 hB
  refine A_skip ?_; refine T_n ?_; refine A_seq ?_; refine A_seq ?_; refine A_region ?_; refine M0 (q_assignC rfl rfl rfl) rfl rfl ?_; refine L_nil ?_; refine T_n ?_; refine A_block ?_
  refine A_loop (fun m st => ∃ k : Nat, k + m = x.Scores.length ∧ ((x.Scores.take k).all (fun y => inR y 0 1000000) = true) ∧ st = (fun k : Nat => (⟨_, [(1, .o (.c (.ptr 0 0))), (3, I (els x.Scores).length), (4, I k)], [.box ((Enc.e x).map (V1.rd []))]⟩ : St)) k) (x.Scores.length) ⟨(fun k : Nat => (⟨_, [(1, .o (.c (.ptr 0 0))), (3, I (els x.Scores).length), (4, I k)], [.box ((Enc.e x).map (V1.rd []))]⟩ : St)) 0, W_go [0] (by decide) rfl (rfl) (.cons rfl (.cons rfl (.cons rfl (.nil)))), 0, by omega, by simp, rfl⟩ ?_
  rintro m_A _ ⟨k, hk_A, hp_A, rfl⟩
  refine A_seq ?_; refine A_seq ?_; refine A_region ?_; refine M0 (q_moveC rfl rfl rfl) rfl rfl ?_; refine M0 (q_moveC rfl rfl rfl) rfl rfl ?_; refine M0 (q_lss rfl rfl rfl rfl) rfl rfl ?_
  refine L_nil ?_; refine T_n ?_
  refine A_cond rfl (fun h3 => ?_) (fun h3 => ?_)
  · have h3 : k < x.Scores.length := by have := of_decide_eq_true h3; omega
    have hat := els_at h3
    have hb := S_in x.Scores[k] 0 1000000
    cases e : inR x.Scores[k] 0 1000000 with
    | false =>
      rw [e] at hb
      rw [worldOk_F (fun hh => by have h9 := hh.2.2.2.2.1; rw [score_no h3 e] at h9; cases h9)]
      refine A_skip ?_; refine T_n ?_; refine A_seq ?_; refine A_block ?_; refine A_seq ?_; refine A_region ?_; refine M0 (q_fldp rfl rfl rfl rfl (by decide)) rfl rfl ?_
      refine M0 (q_ld1 rfl rfl rfl rfl rfl) rfl rfl ?_; refine M0 (q_moveC rfl rfl rfl) rfl rfl ?_; refine M0 (q_at rfl rfl rfl rfl (by omega) (by assumption) rfl) rfl rfl ?_
      refine M0 (q_lr1 rfl rfl rfl rfl) rfl rfl ?_; refine M0 (q_call0 rfl rfl (hb) rfl) rfl rfl ?_; refine M0 (q_not rfl rfl rfl) rfl rfl ?_; refine L_nil ?_; refine T_n ?_; refine A_ifT rfl ?_
      refine A_seq ?_; refine A_region ?_; refine M0 (q_assignC rfl rfl rfl) rfl rfl ?_; refine L_nil ?_; refine T_n ?_; refine A_ret ?_; refine B_r ?_; refine T_r ?_; refine T_r ?_; refine B_r ?_
      refine T_r ?_; refine F_r ?_
      exact E_tmp rfl rfl (W_end [] (by decide) rfl rfl rfl)
    | true =>
      rw [e] at hb
      refine A_skip ?_; refine T_n ?_; refine A_seq ?_; refine A_block ?_; refine A_seq ?_; refine A_region ?_; refine M0 (q_fldp rfl rfl rfl rfl (by decide)) rfl rfl ?_
      refine M0 (q_ld1 rfl rfl rfl rfl rfl) rfl rfl ?_; refine M0 (q_moveC rfl rfl rfl) rfl rfl ?_; refine M0 (q_at rfl rfl rfl rfl (by omega) (by assumption) rfl) rfl rfl ?_
      refine M0 (q_lr1 rfl rfl rfl rfl) rfl rfl ?_; refine M0 (q_call0 rfl rfl (hb) rfl) rfl rfl ?_; refine M0 (q_not rfl rfl rfl) rfl rfl ?_; refine L_nil ?_; refine T_n ?_; refine A_ifF rfl ?_
      refine A_skip ?_; refine B_n ?_; refine T_n ?_; refine A_region ?_; refine M0 (q_moveC rfl rfl rfl) rfl rfl ?_; refine M0 (q_add rfl rfl rfl rfl (by omega)) rfl rfl ?_
      refine M0 (q_assignC rfl rfl rfl) rfl rfl ?_; refine L_nil ?_; refine T_n ?_
      exact ⟨x.Scores.length - (k + 1), by omega, (fun k : Nat => (⟨_, [(1, .o (.c (.ptr 0 0))), (3, I (els x.Scores).length), (4, I k)], [.box ((Enc.e x).map (V1.rd []))]⟩ : St)) (k + 1), W_go [0] (by decide) rfl (rfl) (.cons rfl (.cons rfl (.cons rfl (.nil)))), k + 1, by omega, all_next hp_A h3 e, rfl⟩
  have h3 : ¬ k < x.Scores.length := by have := of_decide_eq_false h3; omega
  have hall : scoresOk x.Scores = true := all_end hp_A (by omega)
  refine A_exit ?_; refine T_x ?_; refine T_x ?_; refine B_xs ?_; refine T_n ?_; refine A_seq ?_; refine A_seq ?_; refine A_region ?_; refine M0 (q_assignC rfl rfl rfl) rfl rfl ?_; refine L_nil ?_
  refine T_n ?_; refine A_block ?_
  refine A_loop (fun m st => ∃ k : Nat, k + m = x.Bodies.length ∧ ((∀ (j : Nat) (hj : j < x.Bodies.length), j < k → bodyAt x.Level x.Scores.length j x.Bodies[j] = true)) ∧ st = (fun k : Nat => (⟨_, [(1, .o (.c (.ptr 0 0))), (3, I (els x.Scores).length), (5, I k)], [.box ((Enc.e x).map (V1.rd []))]⟩ : St)) k) (x.Bodies.length) ⟨(fun k : Nat => (⟨_, [(1, .o (.c (.ptr 0 0))), (3, I (els x.Scores).length), (5, I k)], [.box ((Enc.e x).map (V1.rd []))]⟩ : St)) 0, W_go [0] (by decide) rfl (rfl) (.cons rfl (.cons rfl (.cons rfl (.nil)))), 0, by omega, fun j hj h0 => by omega, rfl⟩ ?_
  rintro m_C _ ⟨k, hk_C, hp_C, rfl⟩
  refine A_seq ?_; refine A_seq ?_; refine A_region ?_; refine M0 (q_moveC rfl rfl rfl) rfl rfl ?_; refine M0 (q_fldp rfl rfl rfl rfl (by decide)) rfl rfl ?_
  refine M0 (q_ld1 rfl rfl rfl rfl rfl) rfl rfl ?_; refine M0 (q_len rfl rfl rfl) rfl rfl ?_; refine M0 (q_lss rfl rfl rfl rfl) rfl rfl ?_; refine L_nil ?_; refine T_n ?_
  refine A_cond rfl (fun h6 => ?_) (fun h6 => ?_)
  · have h6 : k < x.Bodies.length := by have := of_decide_eq_true h6; omega
    have hat := els_at h6
    have gb := gB.2 _ (List.getElem_mem h6)
    have hb := S_l02Body x.Level (els x.Scores).length x.Bodies[k] gL hL gb (by omega)
    have hlen : ((els x.Scores).length : Int) = (x.Scores.length : Int) := by rw [hls]
    cases e : bodyM x.Level (els x.Scores).length x.Bodies[k] with
    | false =>
      rw [e] at hb
      rw [worldOk_F (fun hh => by have h9 := hh.2.2.2.2.2.2 k h6; rw [bodyAt, ← hlen, e] at h9; cases h9)]
      refine A_skip ?_; refine T_n ?_; refine A_seq ?_; refine A_block ?_; refine A_seq ?_; refine A_region ?_; refine M0 (q_fldp rfl rfl rfl rfl (by decide)) rfl rfl ?_
      refine M0 (q_ld1 rfl rfl rfl rfl rfl) rfl rfl ?_; refine M0 (q_moveC rfl rfl rfl) rfl rfl ?_; refine M0 (q_at rfl rfl rfl rfl (by omega) (by assumption) rfl) rfl rfl ?_
      refine M0 (q_lrN rfl rfl rfl rfl rfl) rfl rfl ?_; refine M1 (q_alloc rfl rfl rfl) rfl rfl ?_; refine M_stN rfl rfl rfl rfl rfl rfl rfl rfl rfl ?_; refine L_nil ?_; refine T_n ?_
      refine A_seq ?_; refine A_region ?_; refine M0 (q_fldp rfl rfl rfl rfl (by decide)) rfl rfl ?_; refine M0 (q_ldN rfl rfl rfl rfl rfl rfl) rfl rfl ?_
      refine M0 (q_moveC rfl rfl rfl) rfl rfl ?_; refine M0 (q_ldN rfl rfl rfl rfl rfl rfl) rfl rfl ?_; refine M0 (q_call0 rfl rfl (hb) rfl) rfl rfl ?_
      refine M0 (q_not rfl rfl rfl) rfl rfl ?_; refine M0 (q_moveC rfl rfl rfl) rfl rfl ?_; refine M_no rfl rfl rfl rfl rfl rfl ?_; refine M_no rfl rfl rfl rfl rfl rfl ?_
      refine M_no rfl rfl rfl rfl rfl rfl ?_; refine M_no rfl rfl rfl rfl rfl rfl ?_; refine M_no rfl rfl rfl rfl rfl rfl ?_; refine M_no rfl rfl rfl rfl rfl rfl ?_
      refine M_no rfl rfl rfl rfl rfl rfl ?_; refine M0 (q_pickT rfl rfl rfl rfl) rfl rfl ?_; refine M0 (q_moveC rfl rfl rfl) rfl rfl ?_; refine M_no rfl rfl rfl rfl rfl rfl ?_
      refine M_no rfl rfl rfl rfl rfl rfl ?_; refine M_no rfl rfl rfl rfl rfl rfl ?_; refine M_no rfl rfl rfl rfl rfl rfl ?_; refine M0 (Qt.no2 rfl rfl rfl) rfl rfl ?_
      refine M0 (Qt.no2 rfl rfl rfl) rfl rfl ?_; refine M0 (Qt.no2 rfl rfl rfl) rfl rfl ?_; refine M0 (Qt.no2 rfl rfl rfl) rfl rfl ?_; refine M_no rfl rfl rfl rfl rfl rfl ?_
      refine M0 (q_pickT rfl rfl rfl rfl) rfl rfl ?_; refine L_nil ?_; refine T_n ?_; refine A_ifT rfl ?_; refine A_seq ?_; refine A_region ?_; refine M0 (q_assignC rfl rfl rfl) rfl rfl ?_
      refine L_nil ?_; refine T_n ?_; refine A_ret ?_; refine B_r ?_; refine T_r ?_; refine T_r ?_; refine B_r ?_; refine T_r ?_; refine F_r ?_
      exact E_tmp rfl rfl (W_end [] (by decide) rfl rfl rfl)
    | true =>
      rw [e] at hb
      rw [hlen] at e
      by_cases hkn : (k : Int) < (els x.Scores).length
      · have hd : decide ((k : Int) < (els x.Scores).length) = true := decide_eq_true hkn
        by_cases k0 : x.Bodies[k].Kind = 0
        · have hd3 : decide (x.Bodies[k].Kind = 0) = true := decide_eq_true k0
          by_cases ho : x.Bodies[k].Owner ≠ (k : Int)
          · have hd4 : decide (x.Bodies[k].Owner ≠ (k : Int)) = true := decide_eq_true ho
            rw [worldOk_F (fun hh => by have h9 := hh.2.2.2.2.2.2 k h6; rw [bodyAt, e, if_pos (by omega)] at h9; have := of_decide_eq_true h9; omega)]
            refine A_skip ?_; refine T_n ?_; refine A_seq ?_; refine A_block ?_; refine A_seq ?_; refine A_region ?_; refine M0 (q_fldp rfl rfl rfl rfl (by decide)) rfl rfl ?_
            refine M0 (q_ld1 rfl rfl rfl rfl rfl) rfl rfl ?_; refine M0 (q_moveC rfl rfl rfl) rfl rfl ?_; refine M0 (q_at rfl rfl rfl rfl (by omega) (by assumption) rfl) rfl rfl ?_
            refine M0 (q_lrN rfl rfl rfl rfl rfl) rfl rfl ?_; refine M1 (q_alloc rfl rfl rfl) rfl rfl ?_; refine M_stN rfl rfl rfl rfl rfl rfl rfl rfl rfl ?_; refine L_nil ?_; refine T_n ?_
            refine A_seq ?_; refine A_region ?_; refine M0 (q_fldp rfl rfl rfl rfl (by decide)) rfl rfl ?_; refine M0 (q_ldN rfl rfl rfl rfl rfl rfl) rfl rfl ?_
            refine M0 (q_moveC rfl rfl rfl) rfl rfl ?_; refine M0 (q_ldN rfl rfl rfl rfl rfl rfl) rfl rfl ?_; refine M0 (q_call0 rfl rfl (hb) rfl) rfl rfl ?_
            refine M0 (q_not rfl rfl rfl) rfl rfl ?_; refine M0 (q_moveC rfl rfl rfl) rfl rfl ?_; refine M_yes rfl rfl rfl ?_; refine M0 (q_fldp rfl rfl rfl rfl (by decide)) rfl rfl ?_
            refine M_yes rfl rfl rfl ?_; refine M0 (q_ld1 rfl rfl rfl rfl rfl) rfl rfl ?_; refine M_yes rfl rfl rfl ?_; refine M0 (q_eqlK rfl rfl rfl rfl (by assumption)) rfl rfl ?_
            refine M_yes rfl rfl rfl ?_; refine M0 (q_moveC rfl rfl rfl) rfl rfl ?_; refine M_yes rfl rfl rfl ?_; refine M0 (q_moveC rfl rfl rfl) rfl rfl ?_; refine M_yes rfl rfl rfl ?_
            refine M0 (q_lssK rfl rfl rfl rfl (by assumption)) rfl rfl ?_; refine M_yes rfl rfl rfl ?_; refine M0 (q_bneq rfl rfl rfl rfl) rfl rfl ?_; refine M0 (q_pickF rfl rfl rfl rfl) rfl rfl ?_
            refine M0 (q_moveC rfl rfl rfl) rfl rfl ?_; refine M_yes rfl rfl rfl ?_; refine M0 (q_moveC rfl rfl rfl) rfl rfl ?_; refine M_yes rfl rfl rfl ?_; refine M0 (q_moveC rfl rfl rfl) rfl rfl ?_
            refine M_yes rfl rfl rfl ?_; refine M0 (q_lssK rfl rfl rfl rfl (by assumption)) rfl rfl ?_; refine M_yes rfl rfl rfl ?_; refine M0 (q_moveC rfl rfl rfl) rfl rfl ?_
            refine M_yes rfl rfl rfl ?_; refine M0 (q_fldp rfl rfl rfl rfl (by decide)) rfl rfl ?_; refine M_yes rfl rfl rfl ?_; refine M0 (q_ld1 rfl rfl rfl rfl rfl) rfl rfl ?_
            refine M_yes rfl rfl rfl ?_; refine M0 (q_moveC rfl rfl rfl) rfl rfl ?_; refine M_yes rfl rfl rfl ?_; refine M0 (q_neqK rfl rfl rfl rfl (by assumption)) rfl rfl ?_
            refine M_yes rfl rfl rfl ?_; refine M0 (q_pickT rfl rfl rfl rfl) rfl rfl ?_; refine M0 (q_pickF rfl rfl rfl rfl) rfl rfl ?_; refine L_nil ?_; refine T_n ?_; refine A_ifT rfl ?_
            refine A_seq ?_; refine A_region ?_; refine M0 (q_assignC rfl rfl rfl) rfl rfl ?_; refine L_nil ?_; refine T_n ?_; refine A_ret ?_; refine B_r ?_; refine T_r ?_; refine T_r ?_; refine B_r ?_
            refine T_r ?_; refine F_r ?_
            exact E_tmp rfl rfl (W_end [] (by decide) rfl rfl rfl)
          · have hd4 : decide (x.Bodies[k].Owner ≠ (k : Int)) = false := decide_eq_false ho
            refine A_skip ?_; refine T_n ?_; refine A_seq ?_; refine A_block ?_; refine A_seq ?_; refine A_region ?_; refine M0 (q_fldp rfl rfl rfl rfl (by decide)) rfl rfl ?_
            refine M0 (q_ld1 rfl rfl rfl rfl rfl) rfl rfl ?_; refine M0 (q_moveC rfl rfl rfl) rfl rfl ?_; refine M0 (q_at rfl rfl rfl rfl (by omega) (by assumption) rfl) rfl rfl ?_
            refine M0 (q_lrN rfl rfl rfl rfl rfl) rfl rfl ?_; refine M1 (q_alloc rfl rfl rfl) rfl rfl ?_; refine M_stN rfl rfl rfl rfl rfl rfl rfl rfl rfl ?_; refine L_nil ?_; refine T_n ?_
            refine A_seq ?_; refine A_region ?_; refine M0 (q_fldp rfl rfl rfl rfl (by decide)) rfl rfl ?_; refine M0 (q_ldN rfl rfl rfl rfl rfl rfl) rfl rfl ?_
            refine M0 (q_moveC rfl rfl rfl) rfl rfl ?_; refine M0 (q_ldN rfl rfl rfl rfl rfl rfl) rfl rfl ?_; refine M0 (q_call0 rfl rfl (hb) rfl) rfl rfl ?_
            refine M0 (q_not rfl rfl rfl) rfl rfl ?_; refine M0 (q_moveC rfl rfl rfl) rfl rfl ?_; refine M_yes rfl rfl rfl ?_; refine M0 (q_fldp rfl rfl rfl rfl (by decide)) rfl rfl ?_
            refine M_yes rfl rfl rfl ?_; refine M0 (q_ld1 rfl rfl rfl rfl rfl) rfl rfl ?_; refine M_yes rfl rfl rfl ?_; refine M0 (q_eqlK rfl rfl rfl rfl (by assumption)) rfl rfl ?_
            refine M_yes rfl rfl rfl ?_; refine M0 (q_moveC rfl rfl rfl) rfl rfl ?_; refine M_yes rfl rfl rfl ?_; refine M0 (q_moveC rfl rfl rfl) rfl rfl ?_; refine M_yes rfl rfl rfl ?_
            refine M0 (q_lssK rfl rfl rfl rfl (by assumption)) rfl rfl ?_; refine M_yes rfl rfl rfl ?_; refine M0 (q_bneq rfl rfl rfl rfl) rfl rfl ?_; refine M0 (q_pickF rfl rfl rfl rfl) rfl rfl ?_
            refine M0 (q_moveC rfl rfl rfl) rfl rfl ?_; refine M_yes rfl rfl rfl ?_; refine M0 (q_moveC rfl rfl rfl) rfl rfl ?_; refine M_yes rfl rfl rfl ?_; refine M0 (q_moveC rfl rfl rfl) rfl rfl ?_
            refine M_yes rfl rfl rfl ?_; refine M0 (q_lssK rfl rfl rfl rfl (by assumption)) rfl rfl ?_; refine M_yes rfl rfl rfl ?_; refine M0 (q_moveC rfl rfl rfl) rfl rfl ?_
            refine M_yes rfl rfl rfl ?_; refine M0 (q_fldp rfl rfl rfl rfl (by decide)) rfl rfl ?_; refine M_yes rfl rfl rfl ?_; refine M0 (q_ld1 rfl rfl rfl rfl rfl) rfl rfl ?_
            refine M_yes rfl rfl rfl ?_; refine M0 (q_moveC rfl rfl rfl) rfl rfl ?_; refine M_yes rfl rfl rfl ?_; refine M0 (q_neqK rfl rfl rfl rfl (by assumption)) rfl rfl ?_
            refine M_yes rfl rfl rfl ?_; refine M0 (q_pickT rfl rfl rfl rfl) rfl rfl ?_; refine M0 (q_pickF rfl rfl rfl rfl) rfl rfl ?_; refine L_nil ?_; refine T_n ?_; refine A_ifF rfl ?_
            refine A_skip ?_; refine B_n ?_; refine T_n ?_; refine A_region ?_; refine M0 (q_moveC rfl rfl rfl) rfl rfl ?_; refine M0 (q_add rfl rfl rfl rfl (by omega)) rfl rfl ?_
            refine M0 (q_assignC rfl rfl rfl) rfl rfl ?_; refine L_nil ?_; refine T_n ?_
            exact ⟨x.Bodies.length - (k + 1), by omega, (fun k : Nat => (⟨_, [(1, .o (.c (.ptr 0 0))), (3, I (els x.Scores).length), (5, I k)], [.box ((Enc.e x).map (V1.rd []))]⟩ : St)) (k + 1), W_go [0] (by decide) rfl (rfl) (.cons rfl (.cons rfl (.cons rfl (.nil)))), k + 1, by omega, fun j hj h0 => by by_cases hjk : j = k; subst hjk; rw [bodyAt, e, if_pos (by omega)]; exact decide_eq_true (by omega); exact hp_C j hj (by omega), rfl⟩
        · have hd3 : decide (x.Bodies[k].Kind = 0) = false := decide_eq_false k0
          rw [worldOk_F (fun hh => by have h9 := hh.2.2.2.2.2.2 k h6; rw [bodyAt, e, if_pos (by omega)] at h9; have := of_decide_eq_true h9; omega)]
          refine A_skip ?_; refine T_n ?_; refine A_seq ?_; refine A_block ?_; refine A_seq ?_; refine A_region ?_; refine M0 (q_fldp rfl rfl rfl rfl (by decide)) rfl rfl ?_
          refine M0 (q_ld1 rfl rfl rfl rfl rfl) rfl rfl ?_; refine M0 (q_moveC rfl rfl rfl) rfl rfl ?_; refine M0 (q_at rfl rfl rfl rfl (by omega) (by assumption) rfl) rfl rfl ?_
          refine M0 (q_lrN rfl rfl rfl rfl rfl) rfl rfl ?_; refine M1 (q_alloc rfl rfl rfl) rfl rfl ?_; refine M_stN rfl rfl rfl rfl rfl rfl rfl rfl rfl ?_; refine L_nil ?_; refine T_n ?_
          refine A_seq ?_; refine A_region ?_; refine M0 (q_fldp rfl rfl rfl rfl (by decide)) rfl rfl ?_; refine M0 (q_ldN rfl rfl rfl rfl rfl rfl) rfl rfl ?_
          refine M0 (q_moveC rfl rfl rfl) rfl rfl ?_; refine M0 (q_ldN rfl rfl rfl rfl rfl rfl) rfl rfl ?_; refine M0 (q_call0 rfl rfl (hb) rfl) rfl rfl ?_
          refine M0 (q_not rfl rfl rfl) rfl rfl ?_; refine M0 (q_moveC rfl rfl rfl) rfl rfl ?_; refine M_yes rfl rfl rfl ?_; refine M0 (q_fldp rfl rfl rfl rfl (by decide)) rfl rfl ?_
          refine M_yes rfl rfl rfl ?_; refine M0 (q_ld1 rfl rfl rfl rfl rfl) rfl rfl ?_; refine M_yes rfl rfl rfl ?_; refine M0 (q_eqlK rfl rfl rfl rfl (by assumption)) rfl rfl ?_
          refine M_yes rfl rfl rfl ?_; refine M0 (q_moveC rfl rfl rfl) rfl rfl ?_; refine M_yes rfl rfl rfl ?_; refine M0 (q_moveC rfl rfl rfl) rfl rfl ?_; refine M_yes rfl rfl rfl ?_
          refine M0 (q_lssK rfl rfl rfl rfl (by assumption)) rfl rfl ?_; refine M_yes rfl rfl rfl ?_; refine M0 (q_bneq rfl rfl rfl rfl) rfl rfl ?_; refine M0 (q_pickF rfl rfl rfl rfl) rfl rfl ?_
          refine M0 (q_moveC rfl rfl rfl) rfl rfl ?_; refine M_no rfl rfl rfl rfl rfl rfl ?_; refine M_no rfl rfl rfl rfl rfl rfl ?_; refine M_no rfl rfl rfl rfl rfl rfl ?_
          refine M_no rfl rfl rfl rfl rfl rfl ?_; refine M0 (Qt.no2 rfl rfl rfl) rfl rfl ?_; refine M0 (Qt.no2 rfl rfl rfl) rfl rfl ?_; refine M0 (Qt.no2 rfl rfl rfl) rfl rfl ?_
          refine M0 (Qt.no2 rfl rfl rfl) rfl rfl ?_; refine M_no rfl rfl rfl rfl rfl rfl ?_; refine M0 (q_pickT rfl rfl rfl rfl) rfl rfl ?_; refine L_nil ?_; refine T_n ?_; refine A_ifT rfl ?_
          refine A_seq ?_; refine A_region ?_; refine M0 (q_assignC rfl rfl rfl) rfl rfl ?_; refine L_nil ?_; refine T_n ?_; refine A_ret ?_; refine B_r ?_; refine T_r ?_; refine T_r ?_; refine B_r ?_
          refine T_r ?_; refine F_r ?_
          exact E_tmp rfl rfl (W_end [] (by decide) rfl rfl rfl)
      · have hd : decide ((k : Int) < (els x.Scores).length) = false := decide_eq_false hkn
        by_cases k0 : x.Bodies[k].Kind = 0
        · have hd3 : decide (x.Bodies[k].Kind = 0) = true := decide_eq_true k0
          rw [worldOk_F (fun hh => by have h9 := hh.2.2.2.2.2.2 k h6; rw [bodyAt, e, if_neg (by omega)] at h9; have := of_decide_eq_true h9; omega)]
          refine A_skip ?_; refine T_n ?_; refine A_seq ?_; refine A_block ?_; refine A_seq ?_; refine A_region ?_; refine M0 (q_fldp rfl rfl rfl rfl (by decide)) rfl rfl ?_
          refine M0 (q_ld1 rfl rfl rfl rfl rfl) rfl rfl ?_; refine M0 (q_moveC rfl rfl rfl) rfl rfl ?_; refine M0 (q_at rfl rfl rfl rfl (by omega) (by assumption) rfl) rfl rfl ?_
          refine M0 (q_lrN rfl rfl rfl rfl rfl) rfl rfl ?_; refine M1 (q_alloc rfl rfl rfl) rfl rfl ?_; refine M_stN rfl rfl rfl rfl rfl rfl rfl rfl rfl ?_; refine L_nil ?_; refine T_n ?_
          refine A_seq ?_; refine A_region ?_; refine M0 (q_fldp rfl rfl rfl rfl (by decide)) rfl rfl ?_; refine M0 (q_ldN rfl rfl rfl rfl rfl rfl) rfl rfl ?_
          refine M0 (q_moveC rfl rfl rfl) rfl rfl ?_; refine M0 (q_ldN rfl rfl rfl rfl rfl rfl) rfl rfl ?_; refine M0 (q_call0 rfl rfl (hb) rfl) rfl rfl ?_
          refine M0 (q_not rfl rfl rfl) rfl rfl ?_; refine M0 (q_moveC rfl rfl rfl) rfl rfl ?_; refine M_yes rfl rfl rfl ?_; refine M0 (q_fldp rfl rfl rfl rfl (by decide)) rfl rfl ?_
          refine M_yes rfl rfl rfl ?_; refine M0 (q_ld1 rfl rfl rfl rfl rfl) rfl rfl ?_; refine M_yes rfl rfl rfl ?_; refine M0 (q_eqlK rfl rfl rfl rfl (by assumption)) rfl rfl ?_
          refine M_yes rfl rfl rfl ?_; refine M0 (q_moveC rfl rfl rfl) rfl rfl ?_; refine M_yes rfl rfl rfl ?_; refine M0 (q_moveC rfl rfl rfl) rfl rfl ?_; refine M_yes rfl rfl rfl ?_
          refine M0 (q_lssK rfl rfl rfl rfl (by assumption)) rfl rfl ?_; refine M_yes rfl rfl rfl ?_; refine M0 (q_bneq rfl rfl rfl rfl) rfl rfl ?_; refine M0 (q_pickF rfl rfl rfl rfl) rfl rfl ?_
          refine M0 (q_moveC rfl rfl rfl) rfl rfl ?_; refine M_no rfl rfl rfl rfl rfl rfl ?_; refine M_no rfl rfl rfl rfl rfl rfl ?_; refine M_no rfl rfl rfl rfl rfl rfl ?_
          refine M_no rfl rfl rfl rfl rfl rfl ?_; refine M0 (Qt.no2 rfl rfl rfl) rfl rfl ?_; refine M0 (Qt.no2 rfl rfl rfl) rfl rfl ?_; refine M0 (Qt.no2 rfl rfl rfl) rfl rfl ?_
          refine M0 (Qt.no2 rfl rfl rfl) rfl rfl ?_; refine M_no rfl rfl rfl rfl rfl rfl ?_; refine M0 (q_pickT rfl rfl rfl rfl) rfl rfl ?_; refine L_nil ?_; refine T_n ?_; refine A_ifT rfl ?_
          refine A_seq ?_; refine A_region ?_; refine M0 (q_assignC rfl rfl rfl) rfl rfl ?_; refine L_nil ?_; refine T_n ?_; refine A_ret ?_; refine B_r ?_; refine T_r ?_; refine T_r ?_; refine B_r ?_
          refine T_r ?_; refine F_r ?_
          exact E_tmp rfl rfl (W_end [] (by decide) rfl rfl rfl)
        · have hd3 : decide (x.Bodies[k].Kind = 0) = false := decide_eq_false k0
          refine A_skip ?_; refine T_n ?_; refine A_seq ?_; refine A_block ?_; refine A_seq ?_; refine A_region ?_; refine M0 (q_fldp rfl rfl rfl rfl (by decide)) rfl rfl ?_
          refine M0 (q_ld1 rfl rfl rfl rfl rfl) rfl rfl ?_; refine M0 (q_moveC rfl rfl rfl) rfl rfl ?_; refine M0 (q_at rfl rfl rfl rfl (by omega) (by assumption) rfl) rfl rfl ?_
          refine M0 (q_lrN rfl rfl rfl rfl rfl) rfl rfl ?_; refine M1 (q_alloc rfl rfl rfl) rfl rfl ?_; refine M_stN rfl rfl rfl rfl rfl rfl rfl rfl rfl ?_; refine L_nil ?_; refine T_n ?_
          refine A_seq ?_; refine A_region ?_; refine M0 (q_fldp rfl rfl rfl rfl (by decide)) rfl rfl ?_; refine M0 (q_ldN rfl rfl rfl rfl rfl rfl) rfl rfl ?_
          refine M0 (q_moveC rfl rfl rfl) rfl rfl ?_; refine M0 (q_ldN rfl rfl rfl rfl rfl rfl) rfl rfl ?_; refine M0 (q_call0 rfl rfl (hb) rfl) rfl rfl ?_
          refine M0 (q_not rfl rfl rfl) rfl rfl ?_; refine M0 (q_moveC rfl rfl rfl) rfl rfl ?_; refine M_yes rfl rfl rfl ?_; refine M0 (q_fldp rfl rfl rfl rfl (by decide)) rfl rfl ?_
          refine M_yes rfl rfl rfl ?_; refine M0 (q_ld1 rfl rfl rfl rfl rfl) rfl rfl ?_; refine M_yes rfl rfl rfl ?_; refine M0 (q_eqlK rfl rfl rfl rfl (by assumption)) rfl rfl ?_
          refine M_yes rfl rfl rfl ?_; refine M0 (q_moveC rfl rfl rfl) rfl rfl ?_; refine M_yes rfl rfl rfl ?_; refine M0 (q_moveC rfl rfl rfl) rfl rfl ?_; refine M_yes rfl rfl rfl ?_
          refine M0 (q_lssK rfl rfl rfl rfl (by assumption)) rfl rfl ?_; refine M_yes rfl rfl rfl ?_; refine M0 (q_bneq rfl rfl rfl rfl) rfl rfl ?_; refine M0 (q_pickF rfl rfl rfl rfl) rfl rfl ?_
          refine M0 (q_moveC rfl rfl rfl) rfl rfl ?_; refine M_yes rfl rfl rfl ?_; refine M0 (q_moveC rfl rfl rfl) rfl rfl ?_; refine M_yes rfl rfl rfl ?_; refine M0 (q_moveC rfl rfl rfl) rfl rfl ?_
          refine M_yes rfl rfl rfl ?_; refine M0 (q_lssK rfl rfl rfl rfl (by assumption)) rfl rfl ?_; refine M_yes rfl rfl rfl ?_; refine M0 (q_moveC rfl rfl rfl) rfl rfl ?_
          refine M_no rfl rfl rfl rfl rfl rfl ?_; refine M_no rfl rfl rfl rfl rfl rfl ?_; refine M_no rfl rfl rfl rfl rfl rfl ?_; refine M_no rfl rfl rfl rfl rfl rfl ?_; refine M_yes rfl rfl rfl ?_
          refine M0 (q_pickF rfl rfl rfl rfl) rfl rfl ?_; refine M0 (q_pickF rfl rfl rfl rfl) rfl rfl ?_; refine L_nil ?_; refine T_n ?_; refine A_ifF rfl ?_; refine A_skip ?_; refine B_n ?_
          refine T_n ?_; refine A_region ?_; refine M0 (q_moveC rfl rfl rfl) rfl rfl ?_; refine M0 (q_add rfl rfl rfl rfl (by omega)) rfl rfl ?_; refine M0 (q_assignC rfl rfl rfl) rfl rfl ?_
          refine L_nil ?_; refine T_n ?_
          exact ⟨x.Bodies.length - (k + 1), by omega, (fun k : Nat => (⟨_, [(1, .o (.c (.ptr 0 0))), (3, I (els x.Scores).length), (5, I k)], [.box ((Enc.e x).map (V1.rd []))]⟩ : St)) (k + 1), W_go [0] (by decide) rfl (rfl) (.cons rfl (.cons rfl (.cons rfl (.nil)))), k + 1, by omega, fun j hj h0 => by by_cases hjk : j = k; subst hjk; rw [bodyAt, e, if_neg (by omega)]; exact decide_eq_true k0; exact hp_C j hj (by omega), rfl⟩
  have h6 : ¬ k < x.Bodies.length := by have := of_decide_eq_false h6; omega
  rw [worldOk_T ⟨hL, hT, hS, by omega, hall, by omega, fun j hj => hp_C j hj (by omega)⟩]
  refine A_exit ?_; refine T_x ?_; refine T_x ?_; refine B_xs ?_; refine T_n ?_; refine A_seq ?_; refine A_region ?_; refine M0 (q_assignC rfl rfl rfl) rfl rfl ?_; refine L_nil ?_; refine T_n ?_
  refine A_ret ?_; refine F_r ?_
  exact E_tmp rfl rfl (W_end [] (by decide) rfl rfl rfl)
end Go.Proofs.Ytbpebmolbdplmaa
end

section
set_option linter.unusedSimpArgs false
set_option linter.unusedVariables false
set_option maxRecDepth 8000
namespace Go.Proofs.Ytbpebmolbdplmaa
open Go.RowKit

def trackOk (t : TTrack) : Bool := decide ((t.Inputs.length : Int) ≤ 400) && inOk t.Inputs
def tracksOk (l : List TTrack) : Bool := (decide (1 ≤ l.length) && decide (l.length ≤ 4)) && l.all trackOk
theorem tracks_no {l : List TTrack} (h : l.length < 1 ∨ 4 < l.length) : tracksOk l = false := by
  rw [tracksOk]
  rcases h with h | h
  · rw [decide_eq_false (by omega : ¬ 1 ≤ l.length)]; rfl
  · rw [decide_eq_false (by omega : ¬ l.length ≤ 4), Bool.and_false]; rfl
theorem tracks_bad {l : List TTrack} (h : l.all trackOk = false) : tracksOk l = false := by rw [tracksOk, h, Bool.and_false]
theorem tracks_yes {l : List TTrack} (h1 : 1 ≤ l.length) (h2 : l.length ≤ 4) (h : l.all trackOk = true) : tracksOk l = true := by rw [tracksOk, h, decide_eq_true h1, decide_eq_true h2]; rfl
theorem tracks_spec {l : List TTrack} (h : tracksOk l = true) : 1 ≤ l.length ∧ l.length ≤ 4 := by
  simp only [tracksOk, Bool.and_eq_true, decide_eq_true_eq] at h
  exact h.1
def lenAt (l : List TTrack) (k : Nat) : Nat := (l.getD k ⟨[]⟩).Inputs.length
def leastK (l : List TTrack) : Nat → Nat
  | 0 => lenAt l 0
  | k + 1 => min (leastK l k) (lenAt l k)
def knownTicks (l : List TTrack) : Nat := if tracksOk l = true then leastK l l.length else 0
theorem lenAt_is {l : List TTrack} {k : Nat} (h : k < l.length) : lenAt l k = l[k].Inputs.length := by simp [lenAt, List.getD_eq_getElem?_getD, h]
theorem least_0 (l : List TTrack) : leastK l 0 = lenAt l 0 := rfl
theorem least_1 (l : List TTrack) : leastK l 1 = lenAt l 0 := Nat.min_self _
def faultOk (f : TFault) (n : Int) : Bool := ((inR f.Tick 0 400 && decide (0 ≤ f.Player)) && decide (f.Player < n)) && inR f.Add 0 9
theorem fault_S (f : TFault) (n : Int) : (((decide (0 < n) && inR f.Tick 0 400) && inR f.Player 0 (n - 1)) && inR f.Add 0 9) = faultOk f n := by
  rw [faultOk, Bool.eq_iff_iff]
  simp only [Bool.and_eq_true, decide_eq_true_eq, inR_iff]
  omega
def PeerP (p : TPeer) : Prop :=
  (tracksOk p.Tracks = true ∧ worldOk p.Base = true ∧ worldOk p.Now = true ∧ p.Base.Level = p.Now.Level) ∧
  (p.Base.Scores.length = p.Tracks.length ∧ p.Now.Scores.length = p.Tracks.length ∧ faultOk p.Fault p.Tracks.length = true) ∧
  ((0 ≤ p.Me ∧ p.Me ≤ (p.Tracks.length : Int) - 1) ∧ (0 ≤ p.Delay ∧ p.Delay ≤ 5) ∧ (1 ≤ p.Ahead ∧ p.Ahead ≤ 8)) ∧
  ((0 ≤ p.Seed ∧ p.Seed ≤ 65535) ∧ (0 ≤ p.Rolls ∧ p.Rolls ≤ 1000000) ∧ (0 ≤ p.Again ∧ p.Again ≤ 1000000)) ∧
  ((0 ≤ p.Now.Tick - p.Base.Tick ∧ p.Now.Tick - p.Base.Tick ≤ p.Ahead) ∧ (p.Used.length : Int) = p.Now.Tick - p.Base.Tick ∧ (p.Saves.length : Int) = p.Now.Tick - p.Base.Tick) ∧
  ((p.Used.all fun row => rowOk row p.Tracks.length) = true ∧ ∀ k (h : k < p.Saves.length), p.Saves[k].Tick = p.Base.Tick + k) ∧
  p.Base.Tick ≤ knownTicks p.Tracks ∧ p.Now.Tick ≤ lenAt p.Tracks p.Me.toNat ∧ (p.Sums.length : Int) = p.Base.Tick + 1
noncomputable def peerOk (p : TPeer) : Bool := @decide (PeerP p) (Classical.propDecidable _)
theorem peer_T {p : TPeer} (h : PeerP p) : peerOk p = true := @decide_eq_true _ (Classical.propDecidable _) h
theorem peer_F {p : TPeer} (h : ¬ PeerP p) : peerOk p = false := @decide_eq_false _ (Classical.propDecidable _) h
end Go.Proofs.Ytbpebmolbdplmaa
end

section
set_option linter.unusedSimpArgs false
set_option linter.unusedVariables false
set_option maxRecDepth 8000
namespace Go.Proofs.Ytbpebmolbdplmaa
open Go.RowKit

end Go.Proofs.Ytbpebmolbdplmaa
end

section
set_option linter.unusedSimpArgs false
set_option linter.unusedVariables false
namespace Go.Proofs.Ytbpebmolbdplmaa
open Go.RowKit

set_option maxHeartbeats 8000000 in
theorem S_inputsOk (xs : List Int) (hn : Enc.gd xs) : Con Try.prog 95 [] [al xs] [] (B (inOk xs)) := by
  have hn1 := hn.1
  have hlx := els_len xs
  refine Con.of Try.func95 rfl Try.ntmps95 rfl (fun E => ?_)
  refine A_seq ?_; refine A_region ?_; refine M0 (q_assignC rfl rfl rfl) rfl rfl ?_; refine L_nil ?_; refine T_n ?_; refine A_seq ?_; refine A_seq ?_; refine A_region ?_
  refine M0 (q_assignC rfl rfl rfl) rfl rfl ?_; refine L_nil ?_; refine T_n ?_; refine A_block ?_
  refine A_loop (fun m st => ∃ k : Nat, k + m = xs.length ∧ ((xs.take k).all (fun n => inR n 0 15) = true) ∧ st = (fun k : Nat => (⟨_, [(0, L xs), (3, I k)], []⟩ : St)) k) (xs.length) ⟨(fun k : Nat => (⟨_, [(0, L xs), (3, I k)], []⟩ : St)) 0, W_go [] (by decide) rfl (rfl) (.cons rfl (.cons rfl (.nil))), 0, by omega, by simp, rfl⟩ ?_
  rintro m_A _ ⟨k, hk_A, hp_A, rfl⟩
  refine A_seq ?_; refine A_seq ?_; refine A_region ?_; refine M0 (q_moveC rfl rfl rfl) rfl rfl ?_; refine M0 (q_moveC rfl rfl rfl) rfl rfl ?_; refine M0 (q_len rfl rfl rfl) rfl rfl ?_
  refine M0 (q_lss rfl rfl rfl rfl) rfl rfl ?_; refine L_nil ?_; refine T_n ?_
  refine A_cond rfl (fun h => ?_) (fun h => ?_)
  · have h3 : k < xs.length := by have := of_decide_eq_true h; omega
    have hat := els_at h3
    refine A_skip ?_; refine T_n ?_; refine A_seq ?_; refine A_block ?_; refine A_seq ?_; refine A_region ?_; refine M0 (q_moveC rfl rfl rfl) rfl rfl ?_; refine M0 (q_moveC rfl rfl rfl) rfl rfl ?_
    refine M0 (q_at rfl rfl rfl rfl (by omega) (by assumption) rfl) rfl rfl ?_; refine M0 (q_lr1 rfl rfl rfl rfl) rfl rfl ?_; refine M0 (q_call0 rfl rfl (S_in xs[k] 0 15) rfl) rfl rfl ?_
    refine M0 (q_not rfl rfl rfl) rfl rfl ?_; refine L_nil ?_; refine T_n ?_
    refine A_cond rfl (fun h4 => ?_) (fun h4 => ?_)
    · refine A_seq ?_; refine A_region ?_; refine M0 (q_assignC rfl rfl rfl) rfl rfl ?_; refine L_nil ?_; refine T_n ?_; refine A_ret ?_; refine B_r ?_; refine T_r ?_; refine T_r ?_; refine B_r ?_
      refine T_r ?_; refine F_r ?_
      exact E_tmp rfl rfl (W_end [] (by decide) rfl rfl (B_eq (all_no h3 (by simpa using h4)).symm))
    · refine A_skip ?_; refine B_n ?_; refine T_n ?_; refine A_region ?_; refine M0 (q_moveC rfl rfl rfl) rfl rfl ?_; refine M0 (q_add rfl rfl rfl rfl (by omega)) rfl rfl ?_
      refine M0 (q_assignC rfl rfl rfl) rfl rfl ?_; refine L_nil ?_; refine T_n ?_
      exact ⟨xs.length - (k + 1), by omega, (fun k : Nat => (⟨_, [(0, L xs), (3, I k)], []⟩ : St)) (k + 1), W_go [] (by decide) rfl (rfl) (.cons rfl (.cons rfl (.nil))), k + 1, by omega, all_next hp_A h3 (by simpa using h4), rfl⟩
  · have h3 : ¬ ((k : Int) < (els xs).length) := of_decide_eq_false h
    refine A_exit ?_; refine T_x ?_; refine T_x ?_; refine B_xs ?_; refine T_n ?_; refine A_seq ?_; refine A_region ?_; refine M0 (q_assignC rfl rfl rfl) rfl rfl ?_; refine L_nil ?_; refine T_n ?_
    refine A_ret ?_; refine F_r ?_
    exact E_tmp rfl rfl (W_end [] (by decide) rfl rfl (B_eq (all_end hp_A (by omega)).symm))
end Go.Proofs.Ytbpebmolbdplmaa
end

section
set_option linter.unusedSimpArgs false
set_option linter.unusedVariables false
namespace Go.Proofs.Ytbpebmolbdplmaa
open Go.RowKit

set_option maxHeartbeats 2000000 in
theorem slEqS (xs ys : List ByteArray) (hn : Enc.gd xs) : Con Try.prog 123 [] [al xs, al ys] [] (B (decide (xs = ys))) := by
  have hn1 := hn.1
  have hlx := els_len xs
  have hly := els_len ys
  by_cases hl : xs.length = ys.length
  · have hb : decide (((els xs).length : Int) ≠ ((els ys).length : Int)) = false := by rw [hlx, hly, hl]; simp
    refine Con.of Try.func123 rfl Try.ntmps123 rfl (fun E => ?_)
    refine A_seq ?_; refine A_region ?_; refine M0 (q_assignC rfl rfl rfl) rfl rfl ?_; refine L_nil ?_; refine T_n ?_; refine A_seq ?_; refine A_seq ?_; refine A_region ?_
    refine M0 (q_moveC rfl rfl rfl) rfl rfl ?_; refine M0 (q_len rfl rfl rfl) rfl rfl ?_; refine M0 (q_moveC rfl rfl rfl) rfl rfl ?_; refine M0 (q_len rfl rfl rfl) rfl rfl ?_
    refine M0 (q_neqK rfl rfl rfl rfl (by assumption)) rfl rfl ?_; refine L_nil ?_; refine T_n ?_; refine A_ifF rfl ?_; refine A_skip ?_; refine T_n ?_; refine A_seq ?_; refine A_seq ?_
    refine A_region ?_; refine M0 (q_moveC rfl rfl rfl) rfl rfl ?_; refine M0 (q_len rfl rfl rfl) rfl rfl ?_; refine M0 (q_moveC rfl rfl rfl) rfl rfl ?_; refine L_nil ?_; refine T_n ?_
    refine A_block ?_
    refine A_loop (fun m st => ∃ k : Nat, k + m = xs.length ∧ (xs.take k = ys.take k) ∧ st = (fun k : Nat => (⟨_, [(0, L xs), (1, L ys), (12, I (els xs).length), (13, I k)], []⟩ : St)) k) (xs.length) ⟨(fun k : Nat => (⟨_, [(0, L xs), (1, L ys), (12, I (els xs).length), (13, I k)], []⟩ : St)) 0, W_go [] (by decide) rfl (rfl) (.cons rfl (.cons rfl (.cons rfl (.cons rfl (.nil))))), 0, by omega, by simp, rfl⟩ ?_
    rintro m_A _ ⟨k, hk_A, hp_A, rfl⟩
    refine A_seq ?_; refine A_region ?_; refine M0 (q_lss rfl rfl rfl rfl) rfl rfl ?_; refine L_nil ?_; refine T_n ?_; refine A_seq ?_
    refine A_cond rfl (fun h => ?_) (fun h => ?_)
    · have h3 : k < xs.length := by have := of_decide_eq_true h; omega
      have h4 : k < ys.length := by omega
      have hat := els_at h3
      have hat2 := els_at h4
      by_cases he : xs[k] = ys[k]
      · have hk : decide (xs[k] ≠ ys[k]) = false := by simp [he]
        refine A_skip ?_; refine T_n ?_; refine A_seq ?_; refine A_block ?_; refine A_seq ?_; refine A_region ?_; refine M0 (q_moveC rfl rfl rfl) rfl rfl ?_; refine M0 (q_assignC rfl rfl rfl) rfl rfl ?_
        refine L_nil ?_; refine T_n ?_; refine A_seq ?_
        refine A_draw [[], [], [0, 1], [0, 1, 2], [], [], [4, 5], [4, 5, 6], [0, 1, 2, 3, 4, 5, 6, 7]] [[], [], [16, 17], [16, 17, 18], [], [], [20, 21], [20, 21, 22], [16, 17, 18, 19, 20, 21, 22, 23]] [[17, 20, 21, 22, 23], [16, 20, 21, 22, 23], [20, 21, 22, 23], [20, 21, 22, 23], [16, 17, 18, 19, 21], [16, 17, 18, 19, 20], [16, 17, 18, 19], [16, 17, 18, 19], []] rfl ?_
        refine DR.step (q_moveC rfl rfl rfl) rfl rfl ?_; refine DR.step (q_moveC rfl rfl rfl) rfl rfl ?_; refine DR.step (q_at rfl rfl rfl rfl (by omega) (by assumption) rfl) rfl rfl ?_
        refine DR.step (q_lr1 rfl rfl rfl rfl) rfl rfl ?_; refine DR.step (q_moveC rfl rfl rfl) rfl rfl ?_; refine DR.step (q_moveC rfl rfl rfl) rfl rfl ?_
        refine DR.step (q_at rfl rfl rfl rfl (by omega) (by assumption) rfl) rfl rfl ?_; refine DR.step (q_lr1 rfl rfl rfl rfl) rfl rfl ?_
        refine DR.step (q_sneqK rfl rfl rfl rfl (by assumption)) rfl rfl ?_; refine DR.stop (by kernel_rfl) (by kernel_rfl) ?_
        refine L_nil ?_; refine T_n ?_; refine A_ifF rfl ?_; refine A_skip ?_; refine B_n ?_; refine T_n ?_; refine A_region ?_; refine M0 (q_add rfl rfl rfl rfl (by omega)) rfl rfl ?_
        refine M0 (q_moveC rfl rfl rfl) rfl rfl ?_; refine L_nil ?_; refine T_n ?_
        exact ⟨xs.length - (k + 1), by omega, (fun k : Nat => (⟨_, [(0, L xs), (1, L ys), (12, I (els xs).length), (13, I k)], []⟩ : St)) (k + 1), W_go [] (by decide) rfl (rfl) (.cons rfl (.cons rfl (.cons rfl (.cons rfl (.nil))))), k + 1, by omega, eq_next h3 h4 hp_A he, rfl⟩
      · have hk : decide (xs[k] ≠ ys[k]) = true := by simp [he]
        refine A_skip ?_; refine T_n ?_; refine A_seq ?_; refine A_block ?_; refine A_seq ?_; refine A_region ?_; refine M0 (q_moveC rfl rfl rfl) rfl rfl ?_; refine M0 (q_assignC rfl rfl rfl) rfl rfl ?_
        refine L_nil ?_; refine T_n ?_; refine A_seq ?_
        refine A_draw [[], [], [0, 1], [0, 1, 2], [], [], [4, 5], [4, 5, 6], [0, 1, 2, 3, 4, 5, 6, 7]] [[], [], [16, 17], [16, 17, 18], [], [], [20, 21], [20, 21, 22], [16, 17, 18, 19, 20, 21, 22, 23]] [[17, 20, 21, 22, 23], [16, 20, 21, 22, 23], [20, 21, 22, 23], [20, 21, 22, 23], [16, 17, 18, 19, 21], [16, 17, 18, 19, 20], [16, 17, 18, 19], [16, 17, 18, 19], []] rfl ?_
        refine DR.step (q_moveC rfl rfl rfl) rfl rfl ?_; refine DR.step (q_moveC rfl rfl rfl) rfl rfl ?_; refine DR.step (q_at rfl rfl rfl rfl (by omega) (by assumption) rfl) rfl rfl ?_
        refine DR.step (q_lr1 rfl rfl rfl rfl) rfl rfl ?_; refine DR.step (q_moveC rfl rfl rfl) rfl rfl ?_; refine DR.step (q_moveC rfl rfl rfl) rfl rfl ?_
        refine DR.step (q_at rfl rfl rfl rfl (by omega) (by assumption) rfl) rfl rfl ?_; refine DR.step (q_lr1 rfl rfl rfl rfl) rfl rfl ?_
        refine DR.step (q_sneqK rfl rfl rfl rfl (by assumption)) rfl rfl ?_; refine DR.stop (by kernel_rfl) (by kernel_rfl) ?_
        refine L_nil ?_; refine T_n ?_; refine A_ifT rfl ?_; refine A_seq ?_; refine A_region ?_; refine M0 (q_assignC rfl rfl rfl) rfl rfl ?_; refine L_nil ?_; refine T_n ?_; refine A_ret ?_; refine B_r ?_
        refine T_r ?_; refine T_r ?_; refine B_r ?_; refine T_r ?_; refine F_r ?_
        exact E_tmp rfl rfl (W_end [] (by decide) rfl rfl (B_eq (eq_ne h3 h4 he).symm))
    · have h3 : ¬ ((k : Int) < (els xs).length) := of_decide_eq_false h
      refine A_exit ?_; refine T_x ?_; refine T_x ?_; refine B_xs ?_; refine T_n ?_; refine A_seq ?_; refine A_region ?_; refine M0 (q_assignC rfl rfl rfl) rfl rfl ?_; refine L_nil ?_; refine T_n ?_
      refine A_ret ?_; refine F_r ?_
      exact E_tmp rfl rfl (W_end [] (by decide) rfl rfl (B_eq (eq_all (by omega) hl hp_A).symm))
  · have hb : decide (((els xs).length : Int) ≠ ((els ys).length : Int)) = true := by rw [hlx, hly]; simp; omega
    refine Con.of Try.func123 rfl Try.ntmps123 rfl (fun E => ?_)
    refine A_seq ?_; refine A_region ?_; refine M0 (q_assignC rfl rfl rfl) rfl rfl ?_; refine L_nil ?_; refine T_n ?_; refine A_seq ?_; refine A_seq ?_; refine A_region ?_
    refine M0 (q_moveC rfl rfl rfl) rfl rfl ?_; refine M0 (q_len rfl rfl rfl) rfl rfl ?_; refine M0 (q_moveC rfl rfl rfl) rfl rfl ?_; refine M0 (q_len rfl rfl rfl) rfl rfl ?_
    refine M0 (q_neqK rfl rfl rfl rfl (by assumption)) rfl rfl ?_; refine L_nil ?_; refine T_n ?_; refine A_ifT rfl ?_; refine A_seq ?_; refine A_region ?_
    refine M0 (q_assignC rfl rfl rfl) rfl rfl ?_; refine L_nil ?_; refine T_n ?_; refine A_ret ?_; refine T_r ?_; refine F_r ?_
    exact E_tmp rfl rfl (W_end [] (by decide) rfl rfl (B_eq (eq_len hl).symm))
set_option maxHeartbeats 8000000 in
theorem I_sameLevel (x y : TLevel) (hg : Enc.gd x) : Con Try.prog 87 [] [ag x, ag y] [] (B (decide (x = y))) := by
  have h : decide (x.Rows = y.Rows) = decide (x = y) := by cases x; cases y; simp
  refine Con.of Try.func87 rfl Try.ntmps87 rfl (fun E => ?_)
  refine A_seq ?_; refine A_region ?_; refine M1 (q_boxN rfl rfl rfl rfl) rfl rfl ?_; refine M1 (q_boxN rfl rfl rfl rfl) rfl rfl ?_; refine M0 (q_assignC rfl rfl rfl) rfl rfl ?_
  refine L_nil ?_; refine T_n ?_; refine A_seq ?_; refine A_region ?_; refine M0 (q_fldp rfl rfl rfl rfl (by decide)) rfl rfl ?_; refine M0 (q_ld1 rfl rfl rfl rfl rfl) rfl rfl ?_
  refine M0 (q_fldp rfl rfl rfl rfl (by decide)) rfl rfl ?_; refine M0 (q_ld1 rfl rfl rfl rfl rfl) rfl rfl ?_; refine M0 (q_call0 rfl rfl (slEqS x.Rows y.Rows hg) rfl) rfl rfl ?_
  refine M0 (q_assignC rfl rfl rfl) rfl rfl ?_; refine L_nil ?_; refine T_n ?_; refine A_ret ?_; refine F_r ?_
  exact E_tmp rfl rfl (W_end [] (by decide) rfl rfl (B_eq h))
end Go.Proofs.Ytbpebmolbdplmaa
end

section
set_option linter.unusedSimpArgs false
set_option linter.unusedVariables false
namespace Go.Proofs.Ytbpebmolbdplmaa
open Go.RowKit

set_option maxHeartbeats 8000000 in
theorem S_sameLevel (x y : TLevel) (hg : Enc.gd x) : Con Try.prog 76 [] [ag x, ag y] [] (B (decide (x = y))) := by
  have he : decide (x.Rows = y.Rows) = decide (x = y) := by cases x; cases y; simp
  rw [← he]
  clear he
  obtain ⟨xs⟩ := x
  obtain ⟨ys⟩ := y
  have hn : Enc.gd xs := hg
  have hn1 := hn.1
  show Con _ _ _ _ _ (B (decide (xs = ys)))
  have hlx := els_len xs
  have hly := els_len ys
  by_cases hl : xs.length = ys.length
  · have hb : decide (((els xs).length : Int) ≠ ((els ys).length : Int)) = false := by rw [hlx, hly, hl]; simp
    refine Con.of Try.func76 rfl Try.ntmps76 rfl (fun E => ?_)
    refine A_seq ?_; refine A_region ?_; refine M1 (q_boxN rfl rfl rfl rfl) rfl rfl ?_; refine M1 (q_boxN rfl rfl rfl rfl) rfl rfl ?_; refine M0 (q_assignC rfl rfl rfl) rfl rfl ?_
    refine L_nil ?_; refine T_n ?_; refine A_seq ?_; refine A_seq ?_; refine A_region ?_; refine M0 (q_fldp rfl rfl rfl rfl (by decide)) rfl rfl ?_
    refine M0 (q_ld1 rfl rfl rfl rfl rfl) rfl rfl ?_; refine M0 (q_len rfl rfl rfl) rfl rfl ?_; refine M0 (q_fldp rfl rfl rfl rfl (by decide)) rfl rfl ?_
    refine M0 (q_ld1 rfl rfl rfl rfl rfl) rfl rfl ?_; refine M0 (q_len rfl rfl rfl) rfl rfl ?_; refine M0 (q_neqK rfl rfl rfl rfl (by assumption)) rfl rfl ?_; refine L_nil ?_; refine T_n ?_
    refine A_ifF rfl ?_; refine A_skip ?_; refine T_n ?_; refine A_seq ?_; refine A_seq ?_; refine A_region ?_; refine M0 (q_assignC rfl rfl rfl) rfl rfl ?_; refine L_nil ?_; refine T_n ?_
    refine A_block ?_
    refine A_loop (fun m st => ∃ k : Nat, k + m = xs.length ∧ (xs.take k = ys.take k) ∧ st = (fun k : Nat => (⟨_, [(2, .o (.c (.ptr 0 0))), (3, .o (.c (.ptr 1 0))), (5, I k)], [.box [.rd [] (sl xs)], .box [.rd [] (sl ys)]]⟩ : St)) k) (xs.length) ⟨(fun k : Nat => (⟨_, [(2, .o (.c (.ptr 0 0))), (3, .o (.c (.ptr 1 0))), (5, I k)], [.box [.rd [] (sl xs)], .box [.rd [] (sl ys)]]⟩ : St)) 0, W_go [0, 1] (by decide) rfl (rfl) (.cons rfl (.cons rfl (.cons rfl (.nil)))), 0, by omega, by simp, rfl⟩ ?_
    rintro m_A _ ⟨k, hk_A, hp_A, rfl⟩
    refine A_seq ?_; refine A_seq ?_; refine A_region ?_; refine M0 (q_moveC rfl rfl rfl) rfl rfl ?_; refine M0 (q_fldp rfl rfl rfl rfl (by decide)) rfl rfl ?_
    refine M0 (q_ld1 rfl rfl rfl rfl rfl) rfl rfl ?_; refine M0 (q_len rfl rfl rfl) rfl rfl ?_; refine M0 (q_lss rfl rfl rfl rfl) rfl rfl ?_; refine L_nil ?_; refine T_n ?_
    refine A_cond rfl (fun h => ?_) (fun h => ?_)
    · have h3 : k < xs.length := by have := of_decide_eq_true h; omega
      have h4 : k < ys.length := by omega
      have hat := els_at h3
      have hat2 := els_at h4
      by_cases he : xs[k] = ys[k]
      · have hk : decide (xs[k] ≠ ys[k]) = false := by simp [he]
        refine A_skip ?_; refine T_n ?_; refine A_seq ?_; refine A_block ?_; refine A_seq ?_
        refine A_draw [[], [0], [], [0, 1, 2], [0, 1, 2, 3], [], [5], [], [5, 6, 7], [5, 6, 7, 8], [0, 1, 2, 3, 4, 5, 6, 7, 8, 9]] [[], [20], [], [20, 21, 22], [20, 21, 22, 23], [], [25], [], [25, 26, 27], [25, 26, 27, 28], [20, 21, 22, 23, 24, 25, 26, 27, 28, 29]] [[22, 25, 26, 27, 28, 29], [22, 25, 26, 27, 28, 29], [20, 21, 25, 26, 27, 28, 29], [25, 26, 27, 28, 29], [25, 26, 27, 28, 29], [20, 21, 22, 23, 24, 27], [20, 21, 22, 23, 24, 27], [20, 21, 22, 23, 24, 25, 26], [20, 21, 22, 23, 24], [20, 21, 22, 23, 24], []] rfl ?_
        refine DR.step (q_fldp rfl rfl rfl rfl (by decide)) rfl rfl ?_; refine DR.step (q_ld1 rfl rfl rfl rfl rfl) rfl rfl ?_; refine DR.step (q_moveC rfl rfl rfl) rfl rfl ?_
        refine DR.step (q_at rfl rfl rfl rfl (by omega) (by assumption) rfl) rfl rfl ?_; refine DR.step (q_lr1 rfl rfl rfl rfl) rfl rfl ?_
        refine DR.step (q_fldp rfl rfl rfl rfl (by decide)) rfl rfl ?_; refine DR.step (q_ld1 rfl rfl rfl rfl rfl) rfl rfl ?_; refine DR.step (q_moveC rfl rfl rfl) rfl rfl ?_
        refine DR.step (q_at rfl rfl rfl rfl (by omega) (by assumption) rfl) rfl rfl ?_; refine DR.step (q_lr1 rfl rfl rfl rfl) rfl rfl ?_
        refine DR.step (q_sneqK rfl rfl rfl rfl (by assumption)) rfl rfl ?_; refine DR.stop (by kernel_rfl) (by kernel_rfl) ?_
        refine L_nil ?_; refine T_n ?_; refine A_ifF rfl ?_; refine A_skip ?_; refine B_n ?_; refine T_n ?_; refine A_region ?_; refine M0 (q_moveC rfl rfl rfl) rfl rfl ?_
        refine M0 (q_add rfl rfl rfl rfl (by omega)) rfl rfl ?_; refine M0 (q_assignC rfl rfl rfl) rfl rfl ?_; refine L_nil ?_; refine T_n ?_
        exact ⟨xs.length - (k + 1), by omega, (fun k : Nat => (⟨_, [(2, .o (.c (.ptr 0 0))), (3, .o (.c (.ptr 1 0))), (5, I k)], [.box [.rd [] (sl xs)], .box [.rd [] (sl ys)]]⟩ : St)) (k + 1), W_go [0, 1] (by decide) rfl (rfl) (.cons rfl (.cons rfl (.cons rfl (.nil)))), k + 1, by omega, eq_next h3 h4 hp_A he, rfl⟩
      · have hk : decide (xs[k] ≠ ys[k]) = true := by simp [he]
        refine A_skip ?_; refine T_n ?_; refine A_seq ?_; refine A_block ?_; refine A_seq ?_
        refine A_draw [[], [0], [], [0, 1, 2], [0, 1, 2, 3], [], [5], [], [5, 6, 7], [5, 6, 7, 8], [0, 1, 2, 3, 4, 5, 6, 7, 8, 9]] [[], [20], [], [20, 21, 22], [20, 21, 22, 23], [], [25], [], [25, 26, 27], [25, 26, 27, 28], [20, 21, 22, 23, 24, 25, 26, 27, 28, 29]] [[22, 25, 26, 27, 28, 29], [22, 25, 26, 27, 28, 29], [20, 21, 25, 26, 27, 28, 29], [25, 26, 27, 28, 29], [25, 26, 27, 28, 29], [20, 21, 22, 23, 24, 27], [20, 21, 22, 23, 24, 27], [20, 21, 22, 23, 24, 25, 26], [20, 21, 22, 23, 24], [20, 21, 22, 23, 24], []] rfl ?_
        refine DR.step (q_fldp rfl rfl rfl rfl (by decide)) rfl rfl ?_; refine DR.step (q_ld1 rfl rfl rfl rfl rfl) rfl rfl ?_; refine DR.step (q_moveC rfl rfl rfl) rfl rfl ?_
        refine DR.step (q_at rfl rfl rfl rfl (by omega) (by assumption) rfl) rfl rfl ?_; refine DR.step (q_lr1 rfl rfl rfl rfl) rfl rfl ?_
        refine DR.step (q_fldp rfl rfl rfl rfl (by decide)) rfl rfl ?_; refine DR.step (q_ld1 rfl rfl rfl rfl rfl) rfl rfl ?_; refine DR.step (q_moveC rfl rfl rfl) rfl rfl ?_
        refine DR.step (q_at rfl rfl rfl rfl (by omega) (by assumption) rfl) rfl rfl ?_; refine DR.step (q_lr1 rfl rfl rfl rfl) rfl rfl ?_
        refine DR.step (q_sneqK rfl rfl rfl rfl (by assumption)) rfl rfl ?_; refine DR.stop (by kernel_rfl) (by kernel_rfl) ?_
        refine L_nil ?_; refine T_n ?_; refine A_ifT rfl ?_; refine A_seq ?_; refine A_region ?_; refine M0 (q_assignC rfl rfl rfl) rfl rfl ?_; refine L_nil ?_; refine T_n ?_; refine A_ret ?_; refine B_r ?_
        refine T_r ?_; refine T_r ?_; refine B_r ?_; refine T_r ?_; refine F_r ?_
        exact E_tmp rfl rfl (W_end [] (by decide) rfl rfl (B_eq (eq_ne h3 h4 he).symm))
    · have h3 : ¬ ((k : Int) < (els xs).length) := of_decide_eq_false h
      refine A_exit ?_; refine T_x ?_; refine T_x ?_; refine B_xs ?_; refine T_n ?_; refine A_seq ?_; refine A_region ?_; refine M0 (q_assignC rfl rfl rfl) rfl rfl ?_; refine L_nil ?_; refine T_n ?_
      refine A_ret ?_; refine F_r ?_
      exact E_tmp rfl rfl (W_end [] (by decide) rfl rfl (B_eq (eq_all (by omega) hl hp_A).symm))
  · have hb : decide (((els xs).length : Int) ≠ ((els ys).length : Int)) = true := by rw [hlx, hly]; simp; omega
    refine Con.of Try.func76 rfl Try.ntmps76 rfl (fun E => ?_)
    refine A_seq ?_; refine A_region ?_; refine M1 (q_boxN rfl rfl rfl rfl) rfl rfl ?_; refine M1 (q_boxN rfl rfl rfl rfl) rfl rfl ?_; refine M0 (q_assignC rfl rfl rfl) rfl rfl ?_
    refine L_nil ?_; refine T_n ?_; refine A_seq ?_; refine A_seq ?_; refine A_region ?_; refine M0 (q_fldp rfl rfl rfl rfl (by decide)) rfl rfl ?_
    refine M0 (q_ld1 rfl rfl rfl rfl rfl) rfl rfl ?_; refine M0 (q_len rfl rfl rfl) rfl rfl ?_; refine M0 (q_fldp rfl rfl rfl rfl (by decide)) rfl rfl ?_
    refine M0 (q_ld1 rfl rfl rfl rfl rfl) rfl rfl ?_; refine M0 (q_len rfl rfl rfl) rfl rfl ?_; refine M0 (q_neqK rfl rfl rfl rfl (by assumption)) rfl rfl ?_; refine L_nil ?_; refine T_n ?_
    refine A_ifT rfl ?_; refine A_seq ?_; refine A_region ?_; refine M0 (q_assignC rfl rfl rfl) rfl rfl ?_; refine L_nil ?_; refine T_n ?_; refine A_ret ?_; refine T_r ?_; refine F_r ?_
    exact E_tmp rfl rfl (W_end [] (by decide) rfl rfl (B_eq (eq_len hl).symm))
end Go.Proofs.Ytbpebmolbdplmaa
end

section
set_option linter.unusedSimpArgs false
set_option linter.unusedVariables false
set_option maxRecDepth 8000
namespace Go.Proofs.Ytbpebmolbdplmaa
open Go.RowKit

set_option maxHeartbeats 8000000 in
theorem I_TrackOk (t : TTrack) (g : Enc.gd t) : Con Try.prog 120 [] [ag t] [] (B (trackOk t)) := by
  have hl := els_len t.Inputs
  refine Con.of Try.func120 rfl Try.ntmps120 rfl (fun E => ?_)
  refine A_seq ?_; refine A_region ?_; refine M1 (q_boxN rfl rfl rfl rfl) rfl rfl ?_; refine M0 (q_assignC rfl rfl rfl) rfl rfl ?_; refine L_nil ?_; refine T_n ?_; refine A_seq ?_
  refine A_region ?_; refine M0 (q_fldp rfl rfl rfl rfl (by decide)) rfl rfl ?_; refine M0 (q_ld1 rfl rfl rfl rfl rfl) rfl rfl ?_; refine M0 (q_len rfl rfl rfl) rfl rfl ?_
  refine M0 (q_leq rfl rfl rfl rfl) rfl rfl ?_; refine M0 (q_moveC rfl rfl rfl) rfl rfl ?_
  refine M0 (Qt.grdT rfl rfl rfl .stop (fun hgrd => q_fldp rfl rfl rfl rfl (by decide))) rfl rfl ?_
  refine M0 (Qt.grdT rfl rfl rfl (.hit .stop) (fun hgrd => q_ld1 rfl rfl rfl rfl rfl)) rfl rfl ?_
  refine M0 (Qt.grdT rfl rfl rfl (.hit (.hit .stop)) (fun hgrd => q_call0 rfl rfl (I_inputsOk t.Inputs g) rfl)) rfl rfl ?_; refine M0 (q_and rfl rfl rfl rfl) rfl rfl ?_
  refine M0 (q_assignC rfl rfl rfl) rfl rfl ?_; refine L_nil ?_; refine T_n ?_; refine A_ret ?_; refine F_r ?_
  exact E_tmp rfl rfl (W_end [] (by decide) rfl rfl (B_eq (by rw [hl]; rfl)))
set_option maxHeartbeats 8000000 in
theorem S_TrackOk (t : TTrack) (g : Enc.gd t) : Con Try.prog 118 [] [ag t] [] (B (trackOk t)) := by
  have hl := els_len t.Inputs
  refine Con.of Try.func118 rfl Try.ntmps118 rfl (fun E => ?_)
  refine A_seq ?_; refine A_region ?_; refine M1 (q_boxN rfl rfl rfl rfl) rfl rfl ?_; refine M0 (q_assignC rfl rfl rfl) rfl rfl ?_; refine L_nil ?_; refine T_n ?_; refine A_seq ?_
  refine A_region ?_; refine M0 (q_fldp rfl rfl rfl rfl (by decide)) rfl rfl ?_; refine M0 (q_ld1 rfl rfl rfl rfl rfl) rfl rfl ?_; refine M0 (q_len rfl rfl rfl) rfl rfl ?_
  refine M0 (q_leq rfl rfl rfl rfl) rfl rfl ?_; refine M0 (q_moveC rfl rfl rfl) rfl rfl ?_
  refine M0 (Qt.grdT rfl rfl rfl .stop (fun hgrd => q_fldp rfl rfl rfl rfl (by decide))) rfl rfl ?_
  refine M0 (Qt.grdT rfl rfl rfl (.hit .stop) (fun hgrd => q_ld1 rfl rfl rfl rfl rfl)) rfl rfl ?_
  refine M0 (Qt.grdT rfl rfl rfl (.hit (.hit .stop)) (fun hgrd => q_call0 rfl rfl (S_inputsOk t.Inputs g) rfl)) rfl rfl ?_; refine M0 (q_and rfl rfl rfl rfl) rfl rfl ?_
  refine M0 (q_assignC rfl rfl rfl) rfl rfl ?_; refine L_nil ?_; refine T_n ?_; refine A_ret ?_; refine F_r ?_
  exact E_tmp rfl rfl (W_end [] (by decide) rfl rfl (B_eq (by rw [hl]; rfl)))
set_option maxHeartbeats 8000000 in
theorem I_TracksOk (xs : List TTrack) (g : Enc.gd xs) : Con Try.prog 85 [] [al xs] [] (B (tracksOk xs)) := by
  have hl := els_len xs
  refine Con.of Try.func85 rfl Try.ntmps85 rfl (fun E => ?_)
  refine A_seq ?_; refine A_region ?_; refine M0 (q_assignC rfl rfl rfl) rfl rfl ?_; refine L_nil ?_; refine T_n ?_; refine A_seq ?_; refine A_seq ?_; refine A_region ?_
  refine M0 (q_moveC rfl rfl rfl) rfl rfl ?_; refine M0 (q_len rfl rfl rfl) rfl rfl ?_; refine M0 (q_lss rfl rfl rfl rfl) rfl rfl ?_; refine M0 (q_moveC rfl rfl rfl) rfl rfl ?_
  refine M0 (Qt.grdF rfl rfl rfl .stop (fun hgrd => q_moveC rfl rfl rfl)) rfl rfl ?_; refine M0 (Qt.grdF rfl rfl rfl (.hit .stop) (fun hgrd => q_len rfl rfl rfl)) rfl rfl ?_
  refine M0 (Qt.grdF rfl rfl rfl (.hit (.hit .stop)) (fun hgrd => q_gtr rfl rfl rfl rfl)) rfl rfl ?_; refine M0 (q_or rfl rfl rfl rfl) rfl rfl ?_; refine L_nil ?_; refine T_n ?_
  refine A_cond rfl (fun h => ?_) (fun h => ?_)
  · simp only [Bool.or_eq_true, decide_eq_true_eq] at h
    rw [tracks_no (by omega)]
    refine A_seq ?_; refine A_region ?_; refine M0 (q_assignC rfl rfl rfl) rfl rfl ?_; refine L_nil ?_; refine T_n ?_; refine A_ret ?_; refine T_r ?_; refine F_r ?_
    exact E_tmp rfl rfl (W_end [] (by decide) rfl rfl rfl)
  simp only [Bool.or_eq_false_iff, decide_eq_false_iff_not] at h
  refine A_skip ?_; refine T_n ?_; refine A_seq ?_; refine A_seq ?_; refine A_region ?_; refine M0 (q_moveC rfl rfl rfl) rfl rfl ?_; refine M0 (q_len rfl rfl rfl) rfl rfl ?_
  refine M0 (q_moveC rfl rfl rfl) rfl rfl ?_; refine L_nil ?_; refine T_n ?_; refine A_block ?_
  refine A_loop (fun m st => ∃ k : Nat, k + m = xs.length ∧ ((xs.take k).all trackOk = true) ∧ st = (fun k : Nat => (⟨_, [(13, L xs), (14, I (els xs).length), (15, I k)], []⟩ : St)) k) (xs.length) ⟨(fun k : Nat => (⟨_, [(13, L xs), (14, I (els xs).length), (15, I k)], []⟩ : St)) 0, W_go [] (by decide) rfl (rfl) (.cons rfl (.cons rfl (.cons rfl (.nil)))), 0, by omega, by simp, rfl⟩ ?_
  rintro m_A _ ⟨k, hk_A, hp_A, rfl⟩
  refine A_seq ?_; refine A_region ?_; refine M0 (q_lss rfl rfl rfl rfl) rfl rfl ?_; refine L_nil ?_; refine T_n ?_; refine A_seq ?_
  refine A_cond rfl (fun h => ?_) (fun h => ?_)
  · have h3 : k < xs.length := by have := of_decide_eq_true h; omega
    have hat := els_at h3
    have hc := I_TrackOk xs[k] (g.2 _ (List.getElem_mem h3))
    cases ho : trackOk xs[k] with
    | false =>
      rw [ho] at hc
      rw [tracks_bad (all_no h3 ho)]
      refine A_skip ?_; refine T_n ?_; refine A_seq ?_; refine A_block ?_; refine A_seq ?_; refine A_region ?_; refine M0 (q_at rfl rfl rfl rfl (by omega) (by assumption) rfl) rfl rfl ?_
      refine M0 (q_lrN rfl rfl rfl rfl rfl) rfl rfl ?_; refine M1 (q_alloc rfl rfl rfl) rfl rfl ?_; refine M_stN rfl rfl rfl rfl rfl rfl rfl rfl rfl ?_; refine L_nil ?_; refine T_n ?_
      refine A_seq ?_; refine A_region ?_; refine M0 (q_ldN rfl rfl rfl rfl rfl rfl) rfl rfl ?_; refine M0 (q_call0 rfl rfl (hc) rfl) rfl rfl ?_; refine M0 (q_not rfl rfl rfl) rfl rfl ?_
      refine L_nil ?_; refine T_n ?_; refine A_ifT rfl ?_; refine A_seq ?_; refine A_region ?_; refine M0 (q_assignC rfl rfl rfl) rfl rfl ?_; refine L_nil ?_; refine T_n ?_; refine A_ret ?_; refine B_r ?_
      refine T_r ?_; refine T_r ?_; refine B_r ?_; refine T_r ?_; refine F_r ?_
      exact E_tmp rfl rfl (W_end [] (by decide) rfl rfl rfl)
    | true =>
      rw [ho] at hc
      refine A_skip ?_; refine T_n ?_; refine A_seq ?_; refine A_block ?_; refine A_seq ?_; refine A_region ?_; refine M0 (q_at rfl rfl rfl rfl (by omega) (by assumption) rfl) rfl rfl ?_
      refine M0 (q_lrN rfl rfl rfl rfl rfl) rfl rfl ?_; refine M1 (q_alloc rfl rfl rfl) rfl rfl ?_; refine M_stN rfl rfl rfl rfl rfl rfl rfl rfl rfl ?_; refine L_nil ?_; refine T_n ?_
      refine A_seq ?_; refine A_region ?_; refine M0 (q_ldN rfl rfl rfl rfl rfl rfl) rfl rfl ?_; refine M0 (q_call0 rfl rfl (hc) rfl) rfl rfl ?_; refine M0 (q_not rfl rfl rfl) rfl rfl ?_
      refine L_nil ?_; refine T_n ?_; refine A_ifF rfl ?_; refine A_skip ?_; refine B_n ?_; refine T_n ?_; refine A_region ?_; refine M0 (q_add rfl rfl rfl rfl (by omega)) rfl rfl ?_
      refine M0 (q_moveC rfl rfl rfl) rfl rfl ?_; refine L_nil ?_; refine T_n ?_
      exact ⟨xs.length - (k + 1), by omega, (fun k : Nat => (⟨_, [(13, L xs), (14, I (els xs).length), (15, I k)], []⟩ : St)) (k + 1), W_go [] (by decide) rfl (rfl) (.cons rfl (.cons rfl (.cons rfl (.nil)))), k + 1, by omega, all_next hp_A h3 ho, rfl⟩
  · have h3 : ¬ ((k : Int) < (els xs).length) := of_decide_eq_false h
    rw [tracks_yes (by omega) (by omega) (all_end hp_A (by omega))]
    refine A_exit ?_; refine T_x ?_; refine T_x ?_; refine B_xs ?_; refine T_n ?_; refine A_seq ?_; refine A_region ?_; refine M0 (q_assignC rfl rfl rfl) rfl rfl ?_; refine L_nil ?_; refine T_n ?_
    refine A_ret ?_; refine F_r ?_
    exact E_tmp rfl rfl (W_end [] (by decide) rfl rfl rfl)
set_option maxHeartbeats 8000000 in
theorem S_TracksOk (xs : List TTrack) (g : Enc.gd xs) : Con Try.prog 77 [] [al xs] [] (B (tracksOk xs)) := by
  have hl := els_len xs
  have hg1 := g.1
  refine Con.of Try.func77 rfl Try.ntmps77 rfl (fun E => ?_)
  refine A_seq ?_; refine A_region ?_; refine M0 (q_assignC rfl rfl rfl) rfl rfl ?_; refine L_nil ?_; refine T_n ?_; refine A_seq ?_; refine A_seq ?_; refine A_region ?_
  refine M0 (q_assignC rfl rfl rfl) rfl rfl ?_; refine L_nil ?_; refine T_n ?_; refine A_block ?_
  refine A_loop (fun m st => ∃ k : Nat, k + m = xs.length ∧ ((xs.take k).all trackOk = true) ∧ st = (fun k : Nat => (⟨_, [(0, L xs), (3, I k)], []⟩ : St)) k) (xs.length) ⟨(fun k : Nat => (⟨_, [(0, L xs), (3, I k)], []⟩ : St)) 0, W_go [] (by decide) rfl (rfl) (.cons rfl (.cons rfl (.nil))), 0, by omega, by simp, rfl⟩ ?_
  rintro m_A _ ⟨k, hk_A, hp_A, rfl⟩
  refine A_seq ?_; refine A_seq ?_; refine A_region ?_; refine M0 (q_moveC rfl rfl rfl) rfl rfl ?_; refine M0 (q_moveC rfl rfl rfl) rfl rfl ?_; refine M0 (q_len rfl rfl rfl) rfl rfl ?_
  refine M0 (q_lss rfl rfl rfl rfl) rfl rfl ?_; refine L_nil ?_; refine T_n ?_
  refine A_cond rfl (fun h => ?_) (fun h => ?_)
  · have h3 : k < xs.length := by have := of_decide_eq_true h; omega
    have hat := els_at h3
    have hc := S_TrackOk xs[k] (g.2 _ (List.getElem_mem h3))
    cases ho : trackOk xs[k] with
    | false =>
      rw [ho] at hc
      rw [tracks_bad (all_no h3 ho)]
      refine A_skip ?_; refine T_n ?_; refine A_seq ?_; refine A_block ?_; refine A_seq ?_; refine A_region ?_; refine M0 (q_moveC rfl rfl rfl) rfl rfl ?_; refine M0 (q_moveC rfl rfl rfl) rfl rfl ?_
      refine M0 (q_at rfl rfl rfl rfl (by omega) (by assumption) rfl) rfl rfl ?_; refine M0 (q_lrN rfl rfl rfl rfl rfl) rfl rfl ?_; refine M0 (q_call0 rfl rfl (hc) rfl) rfl rfl ?_
      refine M0 (q_not rfl rfl rfl) rfl rfl ?_; refine L_nil ?_; refine T_n ?_; refine A_ifT rfl ?_; refine A_seq ?_; refine A_region ?_; refine M0 (q_assignC rfl rfl rfl) rfl rfl ?_; refine L_nil ?_
      refine T_n ?_; refine A_ret ?_; refine B_r ?_; refine T_r ?_; refine T_r ?_; refine B_r ?_; refine T_r ?_; refine F_r ?_
      exact E_tmp rfl rfl (W_end [] (by decide) rfl rfl rfl)
    | true =>
      rw [ho] at hc
      refine A_skip ?_; refine T_n ?_; refine A_seq ?_; refine A_block ?_; refine A_seq ?_; refine A_region ?_; refine M0 (q_moveC rfl rfl rfl) rfl rfl ?_; refine M0 (q_moveC rfl rfl rfl) rfl rfl ?_
      refine M0 (q_at rfl rfl rfl rfl (by omega) (by assumption) rfl) rfl rfl ?_; refine M0 (q_lrN rfl rfl rfl rfl rfl) rfl rfl ?_; refine M0 (q_call0 rfl rfl (hc) rfl) rfl rfl ?_
      refine M0 (q_not rfl rfl rfl) rfl rfl ?_; refine L_nil ?_; refine T_n ?_; refine A_ifF rfl ?_; refine A_skip ?_; refine B_n ?_; refine T_n ?_; refine A_region ?_
      refine M0 (q_moveC rfl rfl rfl) rfl rfl ?_; refine M0 (q_add rfl rfl rfl rfl (by omega)) rfl rfl ?_; refine M0 (q_assignC rfl rfl rfl) rfl rfl ?_; refine L_nil ?_; refine T_n ?_
      exact ⟨xs.length - (k + 1), by omega, (fun k : Nat => (⟨_, [(0, L xs), (3, I k)], []⟩ : St)) (k + 1), W_go [] (by decide) rfl (rfl) (.cons rfl (.cons rfl (.nil))), k + 1, by omega, all_next hp_A h3 ho, rfl⟩
  · have h3 : ¬ ((k : Int) < (els xs).length) := of_decide_eq_false h
    have hall := all_end hp_A (by omega)
    refine A_exit ?_; refine T_x ?_; refine T_x ?_; refine B_xs ?_; refine T_n ?_; refine A_seq ?_; refine A_region ?_; refine M0 (q_moveC rfl rfl rfl) rfl rfl ?_
    refine M0 (q_len rfl rfl rfl) rfl rfl ?_; refine M0 (q_call0 rfl rfl (S_in (els xs).length 1 4) rfl) rfl rfl ?_; refine M0 (q_assignC rfl rfl rfl) rfl rfl ?_; refine L_nil ?_
    refine T_n ?_; refine A_ret ?_; refine F_r ?_
    exact E_tmp rfl rfl (W_end [] (by decide) rfl rfl (B_eq (by
      rw [hl]
      by_cases h4 : 1 ≤ xs.length ∧ xs.length ≤ 4
      · rw [tracks_yes h4.1 h4.2 hall, inR_iff.2 (by omega)]
      · rw [tracks_no (by omega), ← Bool.not_eq_true, inR_iff]; omega)))
theorem least_next {l : List TTrack} {k : Nat} (h : k < l.length) : ((leastK l (k + 1) : Nat) : Int) = min ((leastK l k : Nat) : Int) ((els l[k].Inputs).length : Int) := by
  rw [leastK, lenAt_is h, els_len]
  omega
set_option maxHeartbeats 8000000 in
theorem I_KnownTicks (xs : List TTrack) (g : Enc.gd xs) : Con Try.prog 91 [] [al xs] [] (I (knownTicks xs : Nat)) := by
  have hl := els_len xs
  have hc := I_TracksOk xs g
  cases ho : tracksOk xs with
  | false =>
    rw [ho] at hc
    rw [show knownTicks xs = 0 from if_neg (by rw [ho]; decide)]
    refine Con.of Try.func91 rfl Try.ntmps91 rfl (fun E => ?_)
    refine A_seq ?_; refine A_region ?_; refine M0 (q_assignC rfl rfl rfl) rfl rfl ?_; refine L_nil ?_; refine T_n ?_; refine A_seq ?_; refine A_seq ?_; refine A_region ?_
    refine M0 (q_moveC rfl rfl rfl) rfl rfl ?_; refine M0 (q_call0 rfl rfl (hc) rfl) rfl rfl ?_; refine M0 (q_not rfl rfl rfl) rfl rfl ?_; refine L_nil ?_; refine T_n ?_; refine A_ifT rfl ?_
    refine A_seq ?_; refine A_region ?_; refine M0 (q_assignC rfl rfl rfl) rfl rfl ?_; refine L_nil ?_; refine T_n ?_; refine A_ret ?_; refine T_r ?_; refine F_r ?_
    exact E_tmp rfl rfl (W_end [] (by decide) rfl rfl rfl)
  | true =>
    rw [ho] at hc
    rw [show knownTicks xs = leastK xs xs.length from if_pos ho]
    obtain ⟨h1, h4⟩ := tracks_spec ho
    have h0 : 0 < xs.length := by omega
    have hat0 : (els xs)[(0 : Int).toNat]? = some (Enc.e xs[0]) := els_at h0
    refine Con.of Try.func91 rfl Try.ntmps91 rfl (fun E => ?_)
    refine A_seq ?_; refine A_region ?_; refine M0 (q_assignC rfl rfl rfl) rfl rfl ?_; refine L_nil ?_; refine T_n ?_; refine A_seq ?_; refine A_seq ?_; refine A_region ?_
    refine M0 (q_moveC rfl rfl rfl) rfl rfl ?_; refine M0 (q_call0 rfl rfl (hc) rfl) rfl rfl ?_; refine M0 (q_not rfl rfl rfl) rfl rfl ?_; refine L_nil ?_; refine T_n ?_; refine A_ifF rfl ?_
    refine A_skip ?_; refine T_n ?_; refine A_seq ?_; refine A_region ?_; refine M0 (q_moveC rfl rfl rfl) rfl rfl ?_; refine M0 (q_at rfl rfl rfl rfl (by omega) (by assumption) rfl) rfl rfl ?_
    refine M0 (q_fldr rfl rfl rfl rfl (by decide)) rfl rfl ?_; refine M0 (q_lr1 rfl rfl rfl rfl) rfl rfl ?_; refine M0 (q_len rfl rfl rfl) rfl rfl ?_
    refine M0 (q_assignC rfl rfl rfl) rfl rfl ?_; refine L_nil ?_; refine T_n ?_; refine A_seq ?_; refine A_seq ?_; refine A_region ?_; refine M0 (q_moveC rfl rfl rfl) rfl rfl ?_
    refine M0 (q_len rfl rfl rfl) rfl rfl ?_; refine M0 (q_moveC rfl rfl rfl) rfl rfl ?_; refine L_nil ?_; refine T_n ?_; refine A_block ?_
    refine A_loop (fun m st => ∃ k : Nat, k + m = xs.length ∧ (True) ∧ st = (fun k : Nat => (⟨_, [(3, I (leastK xs k : Nat)), (14, L xs), (15, I (els xs).length), (16, I k)], []⟩ : St)) k) (xs.length) ⟨(fun k : Nat => (⟨_, [(3, I (leastK xs k : Nat)), (14, L xs), (15, I (els xs).length), (16, I k)], []⟩ : St)) 0, W_go [] (by decide) rfl (rfl) (.cons (I_eq (by rw [least_0, lenAt_is h0, els_len])) (.cons rfl (.cons rfl (.cons rfl (.nil))))), 0, by omega, trivial, rfl⟩ ?_
    rintro m_A _ ⟨k, hk_A, hp_A, rfl⟩
    refine A_seq ?_; refine A_region ?_; refine M0 (q_lss rfl rfl rfl rfl) rfl rfl ?_; refine L_nil ?_; refine T_n ?_; refine A_seq ?_
    refine A_cond rfl (fun h => ?_) (fun h => ?_)
    · have h3 : k < xs.length := by have := of_decide_eq_true h; omega
      have hat := els_at h3
      refine A_skip ?_; refine T_n ?_; refine A_seq ?_; refine A_block ?_; refine A_seq ?_; refine A_region ?_; refine M0 (q_at rfl rfl rfl rfl (by omega) (by assumption) rfl) rfl rfl ?_
      refine M0 (q_lrN rfl rfl rfl rfl rfl) rfl rfl ?_; refine M1 (q_alloc rfl rfl rfl) rfl rfl ?_; refine M_stN rfl rfl rfl rfl rfl rfl rfl rfl rfl ?_; refine L_nil ?_; refine T_n ?_
      refine A_region ?_; refine M0 (q_moveC rfl rfl rfl) rfl rfl ?_; refine M0 (q_fldp rfl rfl rfl rfl (by decide)) rfl rfl ?_; refine M0 (q_ld1 rfl rfl rfl rfl rfl) rfl rfl ?_
      refine M0 (q_len rfl rfl rfl) rfl rfl ?_; refine M0 (q_min rfl rfl rfl rfl) rfl rfl ?_; refine M0 (q_assignC rfl rfl rfl) rfl rfl ?_; refine L_nil ?_; refine B_n ?_; refine T_n ?_
      refine A_region ?_; refine M0 (q_add rfl rfl rfl rfl (by omega)) rfl rfl ?_; refine M0 (q_moveC rfl rfl rfl) rfl rfl ?_; refine L_nil ?_; refine T_n ?_
      exact ⟨xs.length - (k + 1), by omega, (fun k : Nat => (⟨_, [(3, I (leastK xs k : Nat)), (14, L xs), (15, I (els xs).length), (16, I k)], []⟩ : St)) (k + 1), W_go [] (by decide) rfl (rfl) (.cons (I_eq (least_next h3).symm) (.cons rfl (.cons rfl (.cons rfl (.nil))))), k + 1, by omega, trivial, rfl⟩
    · have h3 : ¬ ((k : Int) < (els xs).length) := of_decide_eq_false h
      have hk : k = xs.length := by omega
      rw [hk]
      refine A_exit ?_; refine T_x ?_; refine T_x ?_; refine B_xs ?_; refine T_n ?_; refine A_seq ?_; refine A_region ?_; refine M0 (q_moveC rfl rfl rfl) rfl rfl ?_
      refine M0 (q_assignC rfl rfl rfl) rfl rfl ?_; refine L_nil ?_; refine T_n ?_; refine A_ret ?_; refine F_r ?_
      exact E_tmp rfl rfl (W_end [] (by decide) rfl rfl rfl)
set_option maxHeartbeats 8000000 in
theorem S_KnownTicks (xs : List TTrack) (g : Enc.gd xs) : Con Try.prog 81 [] [al xs] [] (I (knownTicks xs : Nat)) := by
  have hl := els_len xs
  have hc := S_TracksOk xs g
  cases ho : tracksOk xs with
  | false =>
    rw [ho] at hc
    rw [show knownTicks xs = 0 from if_neg (by rw [ho]; decide)]
    refine Con.of Try.func81 rfl Try.ntmps81 rfl (fun E => ?_)
    refine A_seq ?_; refine A_region ?_; refine M0 (q_assignC rfl rfl rfl) rfl rfl ?_; refine L_nil ?_; refine T_n ?_; refine A_seq ?_; refine A_seq ?_; refine A_region ?_
    refine M0 (q_moveC rfl rfl rfl) rfl rfl ?_; refine M0 (q_call0 rfl rfl (hc) rfl) rfl rfl ?_; refine M0 (q_not rfl rfl rfl) rfl rfl ?_; refine L_nil ?_; refine T_n ?_; refine A_ifT rfl ?_
    refine A_seq ?_; refine A_region ?_; refine M0 (q_assignC rfl rfl rfl) rfl rfl ?_; refine L_nil ?_; refine T_n ?_; refine A_ret ?_; refine T_r ?_; refine F_r ?_
    exact E_tmp rfl rfl (W_end [] (by decide) rfl rfl rfl)
  | true =>
    rw [ho] at hc
    rw [show knownTicks xs = leastK xs xs.length from if_pos ho]
    obtain ⟨h1, h4⟩ := tracks_spec ho
    have h0 : 0 < xs.length := by omega
    have hat0 : (els xs)[(0 : Int).toNat]? = some (Enc.e xs[0]) := els_at h0
    refine Con.of Try.func81 rfl Try.ntmps81 rfl (fun E => ?_)
    refine A_seq ?_; refine A_region ?_; refine M0 (q_assignC rfl rfl rfl) rfl rfl ?_; refine L_nil ?_; refine T_n ?_; refine A_seq ?_; refine A_seq ?_; refine A_region ?_
    refine M0 (q_moveC rfl rfl rfl) rfl rfl ?_; refine M0 (q_call0 rfl rfl (hc) rfl) rfl rfl ?_; refine M0 (q_not rfl rfl rfl) rfl rfl ?_; refine L_nil ?_; refine T_n ?_; refine A_ifF rfl ?_
    refine A_skip ?_; refine T_n ?_; refine A_seq ?_; refine A_region ?_; refine M0 (q_moveC rfl rfl rfl) rfl rfl ?_; refine M0 (q_at rfl rfl rfl rfl (by omega) (by assumption) rfl) rfl rfl ?_
    refine M0 (q_fldr rfl rfl rfl rfl (by decide)) rfl rfl ?_; refine M0 (q_lr1 rfl rfl rfl rfl) rfl rfl ?_; refine M0 (q_len rfl rfl rfl) rfl rfl ?_
    refine M0 (q_assignC rfl rfl rfl) rfl rfl ?_; refine L_nil ?_; refine T_n ?_; refine A_seq ?_; refine A_seq ?_; refine A_region ?_; refine M0 (q_assignC rfl rfl rfl) rfl rfl ?_; refine L_nil ?_
    refine T_n ?_; refine A_block ?_
    refine A_loop (fun m__ st => ∃ (k : Nat), xs.length - k = m__ ∧ (1 ≤ k ∧ k ≤ xs.length) ∧ st = (fun (k : Nat) => (⟨_, [(0, L xs), (3, I (leastK xs k : Nat)), (4, I k)], []⟩ : St)) (k)) ((fun (k : Nat) => xs.length - k) (1)) ⟨(fun (k : Nat) => (⟨_, [(0, L xs), (3, I (leastK xs k : Nat)), (4, I k)], []⟩ : St)) (1), W_go [] (by decide) rfl (rfl) (.cons rfl (.cons (I_eq (by rw [least_1, lenAt_is h0, els_len])) (.cons rfl (.nil)))), 1, rfl, ⟨by omega, by omega⟩, rfl⟩ ?_
    rintro m_A _ ⟨k, hk_A, hp_A, rfl⟩
    refine A_seq ?_; refine A_seq ?_; refine A_region ?_; refine M0 (q_moveC rfl rfl rfl) rfl rfl ?_; refine M0 (q_moveC rfl rfl rfl) rfl rfl ?_; refine M0 (q_len rfl rfl rfl) rfl rfl ?_
    refine M0 (q_lss rfl rfl rfl rfl) rfl rfl ?_; refine L_nil ?_; refine T_n ?_
    refine A_cond rfl (fun h => ?_) (fun h => ?_)
    · have h3 : k < xs.length := by have := of_decide_eq_true h; omega
      have hat := els_at h3
      refine A_skip ?_; refine T_n ?_; refine A_seq ?_; refine A_block ?_; refine A_region ?_; refine M0 (q_moveC rfl rfl rfl) rfl rfl ?_; refine M0 (q_moveC rfl rfl rfl) rfl rfl ?_
      refine M0 (q_moveC rfl rfl rfl) rfl rfl ?_; refine M0 (q_at rfl rfl rfl rfl (by omega) (by assumption) rfl) rfl rfl ?_; refine M0 (q_fldr rfl rfl rfl rfl (by decide)) rfl rfl ?_
      refine M0 (q_lr1 rfl rfl rfl rfl) rfl rfl ?_; refine M0 (q_len rfl rfl rfl) rfl rfl ?_; refine M0 (q_min rfl rfl rfl rfl) rfl rfl ?_; refine M0 (q_assignC rfl rfl rfl) rfl rfl ?_
      refine L_nil ?_; refine B_n ?_; refine T_n ?_; refine A_region ?_; refine M0 (q_moveC rfl rfl rfl) rfl rfl ?_; refine M0 (q_add rfl rfl rfl rfl (by omega)) rfl rfl ?_
      refine M0 (q_assignC rfl rfl rfl) rfl rfl ?_; refine L_nil ?_; refine T_n ?_
      refine ⟨xs.length - (k + 1), (by omega), (fun (k : Nat) => (⟨_, [(0, L xs), (3, I (leastK xs k : Nat)), (4, I k)], []⟩ : St)) (k + 1), W_go [] (by decide) rfl (rfl) (.cons rfl (.cons (I_eq (least_next h3).symm) (.cons rfl (.nil)))), k + 1, rfl, ⟨by omega, by omega⟩, rfl⟩
    · have h3 : ¬ ((k : Int) < (els xs).length) := of_decide_eq_false h
      have hk : k = xs.length := by omega
      rw [hk]
      refine A_exit ?_; refine T_x ?_; refine T_x ?_; refine B_xs ?_; refine T_n ?_; refine A_seq ?_; refine A_region ?_; refine M0 (q_moveC rfl rfl rfl) rfl rfl ?_
      refine M0 (q_assignC rfl rfl rfl) rfl rfl ?_; refine L_nil ?_; refine T_n ?_; refine A_ret ?_; refine F_r ?_
      exact E_tmp rfl rfl (W_end [] (by decide) rfl rfl rfl)
set_option maxHeartbeats 8000000 in
theorem I_FaultOk (f : TFault) (n : Int) (hn : 0 ≤ n) : Con Try.prog 88 [] [ag f, ai n] [] (B (faultOk f n)) := by
  refine Con.of Try.func88 rfl Try.ntmps88 rfl (fun E => ?_)
  refine A_seq ?_; refine A_region ?_; refine M1 (q_boxN rfl rfl rfl rfl) rfl rfl ?_; refine M0 (q_assignC rfl rfl rfl) rfl rfl ?_; refine L_nil ?_; refine T_n ?_; refine A_seq ?_
  refine A_region ?_; refine M0 (q_fldp rfl rfl rfl rfl (by decide)) rfl rfl ?_; refine M0 (q_ld1 rfl rfl rfl rfl rfl) rfl rfl ?_
  refine M0 (q_call0 rfl rfl (I_between f.Tick 0 400) rfl) rfl rfl ?_; refine M0 (q_moveC rfl rfl rfl) rfl rfl ?_
  refine M0 (Qt.grdT rfl rfl rfl .stop (fun hgrd => q_fldp rfl rfl rfl rfl (by decide))) rfl rfl ?_
  refine M0 (Qt.grdT rfl rfl rfl (.hit .stop) (fun hgrd => q_ld1 rfl rfl rfl rfl rfl)) rfl rfl ?_
  refine M0 (Qt.grdT rfl rfl rfl (.hit (.hit .stop)) (fun hgrd => q_geq rfl rfl rfl rfl)) rfl rfl ?_; refine M0 (q_and rfl rfl rfl rfl) rfl rfl ?_
  refine M0 (q_moveC rfl rfl rfl) rfl rfl ?_; refine M0 (Qt.grdT rfl rfl rfl .stop (fun hgrd => q_fldp rfl rfl rfl rfl (by decide))) rfl rfl ?_
  refine M0 (Qt.grdT rfl rfl rfl (.hit .stop) (fun hgrd => q_ld1 rfl rfl rfl rfl rfl)) rfl rfl ?_
  refine M0 (Qt.grdT rfl rfl rfl (.hit (.hit .stop)) (fun hgrd => q_moveC rfl rfl rfl)) rfl rfl ?_
  refine M0 (Qt.grdT rfl rfl rfl (.hit (.hit (.hit .stop))) (fun hgrd => q_lss rfl rfl rfl rfl)) rfl rfl ?_; refine M0 (q_and rfl rfl rfl rfl) rfl rfl ?_
  refine M0 (q_moveC rfl rfl rfl) rfl rfl ?_; refine M0 (Qt.grdT rfl rfl rfl .stop (fun hgrd => q_fldp rfl rfl rfl rfl (by decide))) rfl rfl ?_
  refine M0 (Qt.grdT rfl rfl rfl (.hit .stop) (fun hgrd => q_ld1 rfl rfl rfl rfl rfl)) rfl rfl ?_
  refine M0 (Qt.grdT rfl rfl rfl (.hit (.hit .stop)) (fun hgrd => q_call0 rfl rfl (I_between f.Add 0 9) rfl)) rfl rfl ?_; refine M0 (q_and rfl rfl rfl rfl) rfl rfl ?_
  refine M0 (q_assignC rfl rfl rfl) rfl rfl ?_; refine L_nil ?_; refine T_n ?_; refine A_ret ?_; refine F_r ?_
  exact E_tmp rfl rfl (W_end [] (by decide) rfl rfl rfl)
set_option maxHeartbeats 8000000 in
theorem S_FaultOk (f : TFault) (n : Int) (hn : 0 ≤ n) (hn2 : n ≤ 9223372036854775807) : Con Try.prog 78 [] [ag f, ai n] [] (B (faultOk f n)) := by
  refine Con.of Try.func78 rfl Try.ntmps78 rfl (fun E => ?_)
  refine A_seq ?_; refine A_region ?_; refine M1 (q_boxN rfl rfl rfl rfl) rfl rfl ?_; refine M0 (q_assignC rfl rfl rfl) rfl rfl ?_; refine L_nil ?_; refine T_n ?_; refine A_seq ?_
  refine A_region ?_; refine M0 (q_moveC rfl rfl rfl) rfl rfl ?_; refine M0 (q_gtr rfl rfl rfl rfl) rfl rfl ?_; refine M0 (q_moveC rfl rfl rfl) rfl rfl ?_
  refine M0 (Qt.grdT rfl rfl rfl .stop (fun hgrd => q_fldp rfl rfl rfl rfl (by decide))) rfl rfl ?_
  refine M0 (Qt.grdT rfl rfl rfl (.hit .stop) (fun hgrd => q_ld1 rfl rfl rfl rfl rfl)) rfl rfl ?_
  refine M0 (Qt.grdT rfl rfl rfl (.hit (.hit .stop)) (fun hgrd => q_call0 rfl rfl (S_in f.Tick 0 400) rfl)) rfl rfl ?_; refine M0 (q_and rfl rfl rfl rfl) rfl rfl ?_
  refine M0 (q_moveC rfl rfl rfl) rfl rfl ?_; refine M0 (Qt.grdT rfl rfl rfl .stop (fun hgrd => q_fldp rfl rfl rfl rfl (by decide))) rfl rfl ?_
  refine M0 (Qt.grdT rfl rfl rfl (.hit .stop) (fun hgrd => q_ld1 rfl rfl rfl rfl rfl)) rfl rfl ?_
  refine M0 (Qt.grdT rfl rfl rfl (.hit (.hit .stop)) (fun hgrd => q_moveC rfl rfl rfl)) rfl rfl ?_
  refine M0 (Qt.grdT rfl rfl rfl (.hit (.hit (.hit .stop))) (fun hgrd => q_sub rfl rfl rfl rfl (by omega))) rfl rfl ?_
  refine M0 (Qt.grdT rfl rfl rfl (.hit (.hit (.hit (.hit .stop)))) (fun hgrd => q_call0 rfl rfl (S_in f.Player 0 (n - 1)) rfl)) rfl rfl ?_; refine M0 (q_and rfl rfl rfl rfl) rfl rfl ?_
  refine M0 (q_moveC rfl rfl rfl) rfl rfl ?_; refine M0 (Qt.grdT rfl rfl rfl .stop (fun hgrd => q_fldp rfl rfl rfl rfl (by decide))) rfl rfl ?_
  refine M0 (Qt.grdT rfl rfl rfl (.hit .stop) (fun hgrd => q_ld1 rfl rfl rfl rfl rfl)) rfl rfl ?_
  refine M0 (Qt.grdT rfl rfl rfl (.hit (.hit .stop)) (fun hgrd => q_call0 rfl rfl (S_in f.Add 0 9) rfl)) rfl rfl ?_; refine M0 (q_and rfl rfl rfl rfl) rfl rfl ?_
  refine M0 (q_assignC rfl rfl rfl) rfl rfl ?_; refine L_nil ?_; refine T_n ?_; refine A_ret ?_; refine F_r ?_
  exact E_tmp rfl rfl (W_end [] (by decide) rfl rfl (B_eq (fault_S f n)))
end Go.Proofs.Ytbpebmolbdplmaa
end

section
set_option linter.unusedSimpArgs false
set_option linter.unusedVariables false
set_option maxRecDepth 8000
namespace Go.Proofs.Ytbpebmolbdplmaa
open Go.RowKit

theorem at_nat {α : Type} [Enc α] {xs : List α} {i : Int} (h : i.toNat < xs.length) : (els xs)[i.toNat]? = some (Enc.e (xs[i.toNat]'h)) := by simp [els, h]
theorem world_ticks {w : TWorld} (h : worldOk w = true) : 0 ≤ w.Tick ∧ w.Tick ≤ 100000 := by
  have h2 := (worldOk_spec h).2.1
  rwa [inR_iff] at h2
section
variable {p : TPeer}
theorem no1 (h : (((!tracksOk p.Tracks || !worldOk p.Base) || !worldOk p.Now) || !decide (p.Base.Level = p.Now.Level)) = true) : ¬ PeerP p := fun ⟨⟨q1, q2, q3, q4⟩, _⟩ => by
  rw [q1, q2, q3, decide_eq_true q4] at h; exact absurd h (by decide)
theorem no2 (h : ((decide ((p.Base.Scores.length : Int) ≠ p.Tracks.length) || decide ((p.Now.Scores.length : Int) ≠ p.Tracks.length)) || !faultOk p.Fault p.Tracks.length) = true) : ¬ PeerP p := fun ⟨_, ⟨q1, q2, q3⟩, _⟩ => by
  rw [q3, decide_eq_false (by omega), decide_eq_false (by omega)] at h; exact absurd h (by decide)
theorem no3 (h : ((!inR p.Me 0 ((p.Tracks.length : Int) - 1) || !inR p.Delay 0 5) || !inR p.Ahead 1 8) = true) : ¬ PeerP p := fun ⟨_, _, ⟨q1, q2, q3⟩, _⟩ => by
  rw [inR_iff.2 q1, inR_iff.2 q2, inR_iff.2 q3] at h; exact absurd h (by decide)
theorem no4 (h : ((!inR p.Seed 0 65535 || !inR p.Rolls 0 1000000) || !inR p.Again 0 1000000) = true) : ¬ PeerP p := fun ⟨_, _, _, ⟨q1, q2, q3⟩, _⟩ => by
  rw [inR_iff.2 q1, inR_iff.2 q2, inR_iff.2 q3] at h; exact absurd h (by decide)
theorem no5 (h : ((!inR (p.Now.Tick - p.Base.Tick) 0 p.Ahead || decide ((p.Used.length : Int) ≠ p.Now.Tick - p.Base.Tick)) || decide ((p.Saves.length : Int) ≠ p.Now.Tick - p.Base.Tick)) = true) : ¬ PeerP p := fun ⟨_, _, _, _, ⟨q1, q2, q3⟩, _⟩ => by
  rw [inR_iff.2 q1, decide_eq_false (by omega), decide_eq_false (by omega)] at h; exact absurd h (by decide)
theorem fin_eq (h1 : tracksOk p.Tracks = true ∧ worldOk p.Base = true ∧ worldOk p.Now = true ∧ p.Base.Level = p.Now.Level)
    (h2 : p.Base.Scores.length = p.Tracks.length ∧ p.Now.Scores.length = p.Tracks.length ∧ faultOk p.Fault p.Tracks.length = true)
    (h3 : (0 ≤ p.Me ∧ p.Me ≤ (p.Tracks.length : Int) - 1) ∧ (0 ≤ p.Delay ∧ p.Delay ≤ 5) ∧ (1 ≤ p.Ahead ∧ p.Ahead ≤ 8))
    (h4 : (0 ≤ p.Seed ∧ p.Seed ≤ 65535) ∧ (0 ≤ p.Rolls ∧ p.Rolls ≤ 1000000) ∧ (0 ≤ p.Again ∧ p.Again ≤ 1000000))
    (h5 : (0 ≤ p.Now.Tick - p.Base.Tick ∧ p.Now.Tick - p.Base.Tick ≤ p.Ahead) ∧ (p.Used.length : Int) = p.Now.Tick - p.Base.Tick ∧ (p.Saves.length : Int) = p.Now.Tick - p.Base.Tick)
    (h6 : (p.Used.all fun row => rowOk row p.Tracks.length) = true ∧ ∀ k (h : k < p.Saves.length), p.Saves[k].Tick = p.Base.Tick + k) :
    ((decide (p.Base.Tick ≤ (knownTicks p.Tracks : Nat)) && decide (p.Now.Tick ≤ (lenAt p.Tracks p.Me.toNat : Nat))) && decide ((p.Sums.length : Int) = p.Base.Tick + 1)) = peerOk p := by
  by_cases h7 : p.Base.Tick ≤ knownTicks p.Tracks ∧ p.Now.Tick ≤ lenAt p.Tracks p.Me.toNat ∧ (p.Sums.length : Int) = p.Base.Tick + 1
  · rw [peer_T ⟨h1, h2, h3, h4, h5, h6, h7⟩, decide_eq_true h7.1, decide_eq_true h7.2.1, decide_eq_true h7.2.2]; rfl
  · rw [peer_F fun ⟨_, _, _, _, _, _, h8⟩ => h7 h8]
    rw [← Bool.not_eq_true]
    simp only [Bool.and_eq_true, decide_eq_true_eq]
    exact fun ⟨⟨a, b⟩, c⟩ => h7 ⟨a, b, c⟩
end
set_option maxHeartbeats 8000000 in
theorem I_PeerOk (x : TPeer) (hg : Enc.gd x) : Con Try.prog 37 [] [ag x] [] (B (peerOk x)) := by
  obtain ⟨gMe, gDe, gAh, gSe, gTr, gBa, gNo, gUs, gSa, gSu, gFa, gRo, gAg⟩ := hg
  have hlt := els_len x.Tracks
  have hlu := els_len x.Used
  have hls := els_len x.Saves
  have hlm := els_len x.Sums
  have hlb := els_len x.Base.Scores
  have hln := els_len x.Now.Scores
  have c1 := I_TracksOk x.Tracks gTr
  have c2 := I_WorldOk x.Base gBa
  have c3 := I_WorldOk x.Now gNo
  have c4 := I_sameLevel x.Base.Level x.Now.Level gBa.1
  have c5 := I_FaultOk x.Fault (els x.Tracks).length (by omega)
  have c6 := I_KnownTicks x.Tracks gTr
  refine Con.of Try.func37 rfl Try.ntmps37 rfl (fun E => ?_)
  refine A_seq ?_; refine A_region ?_; refine M1 (q_boxN rfl rfl rfl rfl) rfl rfl ?_; refine M0 (q_assignC rfl rfl rfl) rfl rfl ?_; refine L_nil ?_; refine T_n ?_; refine A_seq ?_
  refine A_region ?_; refine M0 (q_fldp rfl rfl rfl rfl (by decide)) rfl rfl ?_; refine M0 (q_ld1 rfl rfl rfl rfl rfl) rfl rfl ?_; refine M0 (q_len rfl rfl rfl) rfl rfl ?_
  refine M0 (q_assignC rfl rfl rfl) rfl rfl ?_; refine L_nil ?_; refine T_n ?_; refine A_seq ?_; refine A_seq ?_; refine A_region ?_; refine M0 (q_fldp rfl rfl rfl rfl (by decide)) rfl rfl ?_
  refine M0 (q_ld1 rfl rfl rfl rfl rfl) rfl rfl ?_; refine M0 (q_call0 rfl rfl (c1) rfl) rfl rfl ?_; refine M0 (q_not rfl rfl rfl) rfl rfl ?_; refine M0 (q_moveC rfl rfl rfl) rfl rfl ?_
  refine M0 (Qt.grdF rfl rfl rfl .stop (fun hgrd => q_fldp rfl rfl rfl rfl (by decide))) rfl rfl ?_
  refine M0 (Qt.grdF rfl rfl rfl (.hit .stop) (fun hgrd => q_ldN rfl rfl rfl rfl rfl rfl)) rfl rfl ?_
  refine M0 (Qt.grdF rfl rfl rfl (.hit (.hit .stop)) (fun hgrd => q_call0 rfl rfl (c2) rfl)) rfl rfl ?_
  refine M0 (Qt.grdF rfl rfl rfl (.hit (.hit (.hit .stop))) (fun hgrd => q_not rfl rfl rfl)) rfl rfl ?_; refine M0 (q_or rfl rfl rfl rfl) rfl rfl ?_
  refine M0 (q_moveC rfl rfl rfl) rfl rfl ?_; refine M0 (Qt.grdF rfl rfl rfl .stop (fun hgrd => q_fldp rfl rfl rfl rfl (by decide))) rfl rfl ?_
  refine M0 (Qt.grdF rfl rfl rfl (.hit .stop) (fun hgrd => q_ldN rfl rfl rfl rfl rfl rfl)) rfl rfl ?_
  refine M0 (Qt.grdF rfl rfl rfl (.hit (.hit .stop)) (fun hgrd => q_call0 rfl rfl (c3) rfl)) rfl rfl ?_
  refine M0 (Qt.grdF rfl rfl rfl (.hit (.hit (.hit .stop))) (fun hgrd => q_not rfl rfl rfl)) rfl rfl ?_; refine M0 (q_or rfl rfl rfl rfl) rfl rfl ?_
  refine M0 (q_moveC rfl rfl rfl) rfl rfl ?_; refine M0 (Qt.grdF rfl rfl rfl .stop (fun hgrd => q_fldp rfl rfl rfl rfl (by decide))) rfl rfl ?_
  refine M0 (Qt.grdF rfl rfl rfl (.hit .stop) (fun hgrd => q_fldp rfl rfl rfl rfl (by decide))) rfl rfl ?_
  refine M0 (Qt.grdF rfl rfl rfl (.hit (.hit .stop)) (fun hgrd => q_ldN rfl rfl rfl rfl rfl rfl)) rfl rfl ?_
  refine M0 (Qt.grdF rfl rfl rfl (.hit (.hit (.hit .stop))) (fun hgrd => q_fldp rfl rfl rfl rfl (by decide))) rfl rfl ?_
  refine M0 (Qt.grdF rfl rfl rfl (.hit (.hit (.hit (.hit .stop)))) (fun hgrd => q_fldp rfl rfl rfl rfl (by decide))) rfl rfl ?_
  refine M0 (Qt.grdF rfl rfl rfl (.hit (.hit (.hit (.hit (.hit .stop))))) (fun hgrd => q_ldN rfl rfl rfl rfl rfl rfl)) rfl rfl ?_
  refine M0 (Qt.grdF rfl rfl rfl (.hit (.hit (.hit (.hit (.hit (.hit .stop)))))) (fun hgrd => q_call0 rfl rfl (c4) rfl)) rfl rfl ?_
  refine M0 (Qt.grdF rfl rfl rfl (.hit (.hit (.hit (.hit (.hit (.hit (.hit .stop))))))) (fun hgrd => q_not rfl rfl rfl)) rfl rfl ?_; refine M0 (q_or rfl rfl rfl rfl) rfl rfl ?_
  refine L_nil ?_; refine T_n ?_
  refine A_cond rfl (fun h1 => ?_) (fun h1 => ?_)
  · rw [peer_F (no1 h1)]
    refine A_seq ?_; refine A_region ?_; refine M0 (q_assignC rfl rfl rfl) rfl rfl ?_; refine L_nil ?_; refine T_n ?_; refine A_ret ?_; refine T_r ?_; refine F_r ?_
    exact E_tmp rfl rfl (W_end [] (by decide) rfl rfl rfl)
  simp only [Bool.or_eq_false_iff, Bool.not_eq_false', decide_eq_true_eq] at h1
  obtain ⟨⟨⟨q1, q2⟩, q3⟩, q4⟩ := h1
  have tB := world_ticks q2
  have tN := world_ticks q3
  have tL := tracks_spec q1
  refine AWP.pre (st' := (⟨_, [(1, .o (.c (.ptr 0 0))), (3, I (els x.Tracks).length)], [.box ((Enc.e x).map (V1.rd []))]⟩ : St)) ?_ (W_go [0] (by decide) rfl (rfl) (.cons rfl (.cons rfl (.nil))))
  refine A_skip ?_; refine T_n ?_; refine A_seq ?_; refine A_seq ?_; refine A_region ?_; refine M0 (q_fldp rfl rfl rfl rfl (by decide)) rfl rfl ?_
  refine M0 (q_fldp rfl rfl rfl rfl (by decide)) rfl rfl ?_; refine M0 (q_ld1 rfl rfl rfl rfl rfl) rfl rfl ?_; refine M0 (q_len rfl rfl rfl) rfl rfl ?_
  refine M0 (q_moveC rfl rfl rfl) rfl rfl ?_; refine M0 (q_neq rfl rfl rfl rfl) rfl rfl ?_; refine M0 (q_moveC rfl rfl rfl) rfl rfl ?_
  refine M0 (Qt.grdF rfl rfl rfl .stop (fun hgrd => q_fldp rfl rfl rfl rfl (by decide))) rfl rfl ?_
  refine M0 (Qt.grdF rfl rfl rfl (.hit .stop) (fun hgrd => q_fldp rfl rfl rfl rfl (by decide))) rfl rfl ?_
  refine M0 (Qt.grdF rfl rfl rfl (.hit (.hit .stop)) (fun hgrd => q_ld1 rfl rfl rfl rfl rfl)) rfl rfl ?_
  refine M0 (Qt.grdF rfl rfl rfl (.hit (.hit (.hit .stop))) (fun hgrd => q_len rfl rfl rfl)) rfl rfl ?_
  refine M0 (Qt.grdF rfl rfl rfl (.hit (.hit (.hit (.hit .stop)))) (fun hgrd => q_moveC rfl rfl rfl)) rfl rfl ?_
  refine M0 (Qt.grdF rfl rfl rfl (.hit (.hit (.hit (.hit (.hit .stop))))) (fun hgrd => q_neq rfl rfl rfl rfl)) rfl rfl ?_; refine M0 (q_or rfl rfl rfl rfl) rfl rfl ?_
  refine M0 (q_moveC rfl rfl rfl) rfl rfl ?_; refine M0 (Qt.grdF rfl rfl rfl .stop (fun hgrd => q_fldp rfl rfl rfl rfl (by decide))) rfl rfl ?_
  refine M0 (Qt.grdF rfl rfl rfl (.hit .stop) (fun hgrd => q_ldN rfl rfl rfl rfl rfl rfl)) rfl rfl ?_
  refine M0 (Qt.grdF rfl rfl rfl (.hit (.hit .stop)) (fun hgrd => q_moveC rfl rfl rfl)) rfl rfl ?_
  refine M0 (Qt.grdF rfl rfl rfl (.hit (.hit (.hit .stop))) (fun hgrd => q_call0 rfl rfl (c5) rfl)) rfl rfl ?_
  refine M0 (Qt.grdF rfl rfl rfl (.hit (.hit (.hit (.hit .stop)))) (fun hgrd => q_not rfl rfl rfl)) rfl rfl ?_; refine M0 (q_or rfl rfl rfl rfl) rfl rfl ?_; refine L_nil ?_; refine T_n ?_
  refine A_cond rfl (fun h2 => ?_) (fun h2 => ?_)
  · rw [hlt, hlb, hln] at h2
    rw [peer_F (no2 h2)]
    refine A_seq ?_; refine A_region ?_; refine M0 (q_assignC rfl rfl rfl) rfl rfl ?_; refine L_nil ?_; refine T_n ?_; refine A_ret ?_; refine T_r ?_; refine F_r ?_
    exact E_tmp rfl rfl (W_end [] (by decide) rfl rfl rfl)
  rw [hlt, hlb, hln] at h2
  simp only [Bool.or_eq_false_iff, Bool.not_eq_false', decide_eq_false_iff_not, Classical.not_not] at h2
  obtain ⟨⟨q5, q6⟩, q7⟩ := h2
  refine AWP.pre (st' := (⟨_, [(1, .o (.c (.ptr 0 0))), (3, I (els x.Tracks).length)], [.box ((Enc.e x).map (V1.rd []))]⟩ : St)) ?_ (W_go [0] (by decide) rfl (rfl) (.cons rfl (.cons rfl (.nil))))
  refine A_skip ?_; refine T_n ?_; refine A_seq ?_; refine A_seq ?_; refine A_region ?_; refine M0 (q_fldp rfl rfl rfl rfl (by decide)) rfl rfl ?_
  refine M0 (q_ld1 rfl rfl rfl rfl rfl) rfl rfl ?_; refine M0 (q_moveC rfl rfl rfl) rfl rfl ?_; refine M0 (q_sub rfl rfl rfl rfl (by omega)) rfl rfl ?_
  refine M0 (q_call0 rfl rfl (I_between x.Me 0 (((els x.Tracks).length : Int) - 1)) rfl) rfl rfl ?_; refine M0 (q_not rfl rfl rfl) rfl rfl ?_; refine M0 (q_moveC rfl rfl rfl) rfl rfl ?_
  refine M0 (Qt.grdF rfl rfl rfl .stop (fun hgrd => q_fldp rfl rfl rfl rfl (by decide))) rfl rfl ?_
  refine M0 (Qt.grdF rfl rfl rfl (.hit .stop) (fun hgrd => q_ld1 rfl rfl rfl rfl rfl)) rfl rfl ?_
  refine M0 (Qt.grdF rfl rfl rfl (.hit (.hit .stop)) (fun hgrd => q_call0 rfl rfl (I_between x.Delay 0 5) rfl)) rfl rfl ?_
  refine M0 (Qt.grdF rfl rfl rfl (.hit (.hit (.hit .stop))) (fun hgrd => q_not rfl rfl rfl)) rfl rfl ?_; refine M0 (q_or rfl rfl rfl rfl) rfl rfl ?_
  refine M0 (q_moveC rfl rfl rfl) rfl rfl ?_; refine M0 (Qt.grdF rfl rfl rfl .stop (fun hgrd => q_fldp rfl rfl rfl rfl (by decide))) rfl rfl ?_
  refine M0 (Qt.grdF rfl rfl rfl (.hit .stop) (fun hgrd => q_ld1 rfl rfl rfl rfl rfl)) rfl rfl ?_
  refine M0 (Qt.grdF rfl rfl rfl (.hit (.hit .stop)) (fun hgrd => q_call0 rfl rfl (I_between x.Ahead 1 8) rfl)) rfl rfl ?_
  refine M0 (Qt.grdF rfl rfl rfl (.hit (.hit (.hit .stop))) (fun hgrd => q_not rfl rfl rfl)) rfl rfl ?_; refine M0 (q_or rfl rfl rfl rfl) rfl rfl ?_; refine L_nil ?_; refine T_n ?_
  refine A_cond rfl (fun h3 => ?_) (fun h3 => ?_)
  · rw [hlt] at h3
    rw [peer_F (no3 h3)]
    refine A_seq ?_; refine A_region ?_; refine M0 (q_assignC rfl rfl rfl) rfl rfl ?_; refine L_nil ?_; refine T_n ?_; refine A_ret ?_; refine T_r ?_; refine F_r ?_
    exact E_tmp rfl rfl (W_end [] (by decide) rfl rfl rfl)
  rw [hlt] at h3
  simp only [Bool.or_eq_false_iff, Bool.not_eq_false', inR_iff] at h3
  obtain ⟨⟨q8, q9⟩, q10⟩ := h3
  refine AWP.pre (st' := (⟨_, [(1, .o (.c (.ptr 0 0))), (3, I (els x.Tracks).length)], [.box ((Enc.e x).map (V1.rd []))]⟩ : St)) ?_ (W_go [0] (by decide) rfl (rfl) (.cons rfl (.cons rfl (.nil))))
  refine A_skip ?_; refine T_n ?_; refine A_seq ?_; refine A_seq ?_; refine A_region ?_; refine M0 (q_fldp rfl rfl rfl rfl (by decide)) rfl rfl ?_
  refine M0 (q_ld1 rfl rfl rfl rfl rfl) rfl rfl ?_; refine M0 (q_call0 rfl rfl (I_between x.Seed 0 65535) rfl) rfl rfl ?_; refine M0 (q_not rfl rfl rfl) rfl rfl ?_
  refine M0 (q_moveC rfl rfl rfl) rfl rfl ?_; refine M0 (Qt.grdF rfl rfl rfl .stop (fun hgrd => q_fldp rfl rfl rfl rfl (by decide))) rfl rfl ?_
  refine M0 (Qt.grdF rfl rfl rfl (.hit .stop) (fun hgrd => q_ld1 rfl rfl rfl rfl rfl)) rfl rfl ?_
  refine M0 (Qt.grdF rfl rfl rfl (.hit (.hit .stop)) (fun hgrd => q_call0 rfl rfl (I_between x.Rolls 0 1000000) rfl)) rfl rfl ?_
  refine M0 (Qt.grdF rfl rfl rfl (.hit (.hit (.hit .stop))) (fun hgrd => q_not rfl rfl rfl)) rfl rfl ?_; refine M0 (q_or rfl rfl rfl rfl) rfl rfl ?_
  refine M0 (q_moveC rfl rfl rfl) rfl rfl ?_; refine M0 (Qt.grdF rfl rfl rfl .stop (fun hgrd => q_fldp rfl rfl rfl rfl (by decide))) rfl rfl ?_
  refine M0 (Qt.grdF rfl rfl rfl (.hit .stop) (fun hgrd => q_ld1 rfl rfl rfl rfl rfl)) rfl rfl ?_
  refine M0 (Qt.grdF rfl rfl rfl (.hit (.hit .stop)) (fun hgrd => q_call0 rfl rfl (I_between x.Again 0 1000000) rfl)) rfl rfl ?_
  refine M0 (Qt.grdF rfl rfl rfl (.hit (.hit (.hit .stop))) (fun hgrd => q_not rfl rfl rfl)) rfl rfl ?_; refine M0 (q_or rfl rfl rfl rfl) rfl rfl ?_; refine L_nil ?_; refine T_n ?_
  refine A_cond rfl (fun h4 => ?_) (fun h4 => ?_)
  · rw [peer_F (no4 h4)]
    refine A_seq ?_; refine A_region ?_; refine M0 (q_assignC rfl rfl rfl) rfl rfl ?_; refine L_nil ?_; refine T_n ?_; refine A_ret ?_; refine T_r ?_; refine F_r ?_
    exact E_tmp rfl rfl (W_end [] (by decide) rfl rfl rfl)
  simp only [Bool.or_eq_false_iff, Bool.not_eq_false', inR_iff] at h4
  obtain ⟨⟨q11, q12⟩, q13⟩ := h4
  refine AWP.pre (st' := (⟨_, [(1, .o (.c (.ptr 0 0))), (3, I (els x.Tracks).length)], [.box ((Enc.e x).map (V1.rd []))]⟩ : St)) ?_ (W_go [0] (by decide) rfl (rfl) (.cons rfl (.cons rfl (.nil))))
  refine A_skip ?_; refine T_n ?_; refine A_seq ?_; refine A_region ?_; refine M0 (q_fldp rfl rfl rfl rfl (by decide)) rfl rfl ?_; refine M0 (q_fldp rfl rfl rfl rfl (by decide)) rfl rfl ?_
  refine M0 (q_ld1 rfl rfl rfl rfl rfl) rfl rfl ?_; refine M0 (q_fldp rfl rfl rfl rfl (by decide)) rfl rfl ?_; refine M0 (q_fldp rfl rfl rfl rfl (by decide)) rfl rfl ?_
  refine M0 (q_ld1 rfl rfl rfl rfl rfl) rfl rfl ?_; refine M0 (q_sub rfl rfl rfl rfl (by omega)) rfl rfl ?_; refine M0 (q_assignC rfl rfl rfl) rfl rfl ?_; refine L_nil ?_; refine T_n ?_
  refine A_seq ?_; refine A_seq ?_; refine A_region ?_; refine M0 (q_moveC rfl rfl rfl) rfl rfl ?_; refine M0 (q_fldp rfl rfl rfl rfl (by decide)) rfl rfl ?_
  refine M0 (q_ld1 rfl rfl rfl rfl rfl) rfl rfl ?_; refine M0 (q_call0 rfl rfl (I_between (x.Now.Tick - x.Base.Tick) 0 x.Ahead) rfl) rfl rfl ?_; refine M0 (q_not rfl rfl rfl) rfl rfl ?_
  refine M0 (q_moveC rfl rfl rfl) rfl rfl ?_; refine M0 (Qt.grdF rfl rfl rfl .stop (fun hgrd => q_fldp rfl rfl rfl rfl (by decide))) rfl rfl ?_
  refine M0 (Qt.grdF rfl rfl rfl (.hit .stop) (fun hgrd => q_ld1 rfl rfl rfl rfl rfl)) rfl rfl ?_
  refine M0 (Qt.grdF rfl rfl rfl (.hit (.hit .stop)) (fun hgrd => q_len rfl rfl rfl)) rfl rfl ?_
  refine M0 (Qt.grdF rfl rfl rfl (.hit (.hit (.hit .stop))) (fun hgrd => q_moveC rfl rfl rfl)) rfl rfl ?_
  refine M0 (Qt.grdF rfl rfl rfl (.hit (.hit (.hit (.hit .stop)))) (fun hgrd => q_neq rfl rfl rfl rfl)) rfl rfl ?_; refine M0 (q_or rfl rfl rfl rfl) rfl rfl ?_
  refine M0 (q_moveC rfl rfl rfl) rfl rfl ?_; refine M0 (Qt.grdF rfl rfl rfl .stop (fun hgrd => q_fldp rfl rfl rfl rfl (by decide))) rfl rfl ?_
  refine M0 (Qt.grdF rfl rfl rfl (.hit .stop) (fun hgrd => q_ld1 rfl rfl rfl rfl rfl)) rfl rfl ?_
  refine M0 (Qt.grdF rfl rfl rfl (.hit (.hit .stop)) (fun hgrd => q_len rfl rfl rfl)) rfl rfl ?_
  refine M0 (Qt.grdF rfl rfl rfl (.hit (.hit (.hit .stop))) (fun hgrd => q_moveC rfl rfl rfl)) rfl rfl ?_
  refine M0 (Qt.grdF rfl rfl rfl (.hit (.hit (.hit (.hit .stop)))) (fun hgrd => q_neq rfl rfl rfl rfl)) rfl rfl ?_; refine M0 (q_or rfl rfl rfl rfl) rfl rfl ?_; refine L_nil ?_
  refine T_n ?_
  refine A_cond rfl (fun h5 => ?_) (fun h5 => ?_)
  · rw [hlu, hls] at h5
    rw [peer_F (no5 h5)]
    refine A_seq ?_; refine A_region ?_; refine M0 (q_assignC rfl rfl rfl) rfl rfl ?_; refine L_nil ?_; refine T_n ?_; refine A_ret ?_; refine T_r ?_; refine F_r ?_
    exact E_tmp rfl rfl (W_end [] (by decide) rfl rfl rfl)
  rw [hlu, hls] at h5
  simp only [Bool.or_eq_false_iff, Bool.not_eq_false', decide_eq_false_iff_not, Classical.not_not, inR_iff] at h5
  obtain ⟨⟨q14, q15⟩, q16⟩ := h5
  refine AWP.pre (st' := (⟨_, [(1, .o (.c (.ptr 0 0))), (3, I (els x.Tracks).length)], [.box ((Enc.e x).map (V1.rd []))]⟩ : St)) ?_ (W_go [0] (by decide) rfl (rfl) (.cons rfl (.cons rfl (.nil))))
  refine A_skip ?_; refine T_n ?_; refine A_seq ?_; refine A_seq ?_; refine A_region ?_; refine M0 (q_fldp rfl rfl rfl rfl (by decide)) rfl rfl ?_
  refine M0 (q_ld1 rfl rfl rfl rfl rfl) rfl rfl ?_; refine M0 (q_len rfl rfl rfl) rfl rfl ?_; refine M0 (q_moveC rfl rfl rfl) rfl rfl ?_; refine L_nil ?_; refine T_n ?_; refine A_block ?_
  refine A_loop (fun m st => ∃ k : Nat, k + m = x.Used.length ∧ ((x.Used.take k).all (fun row => rowOk row x.Tracks.length) = true) ∧ st = (fun k : Nat => (⟨_, [(1, .o (.c (.ptr 0 0))), (3, I (els x.Tracks).length), (120, L x.Used), (121, I (els x.Used).length), (122, I k)], [.box ((Enc.e x).map (V1.rd []))]⟩ : St)) k) (x.Used.length) ⟨(fun k : Nat => (⟨_, [(1, .o (.c (.ptr 0 0))), (3, I (els x.Tracks).length), (120, L x.Used), (121, I (els x.Used).length), (122, I k)], [.box ((Enc.e x).map (V1.rd []))]⟩ : St)) 0, W_go [0] (by decide) rfl (rfl) (.cons rfl (.cons rfl (.cons rfl (.cons rfl (.cons rfl (.nil)))))), 0, by omega, by simp, rfl⟩ ?_
  rintro m_A _ ⟨k, hk_A, hp_A, rfl⟩
  refine A_seq ?_; refine A_region ?_; refine M0 (q_lss rfl rfl rfl rfl) rfl rfl ?_; refine L_nil ?_; refine T_n ?_; refine A_seq ?_
  refine A_cond rfl (fun h => ?_) (fun h => ?_)
  · have h3 : k < x.Used.length := by have := of_decide_eq_true h; omega
    have hat := els_at h3
    have hc := I_rowOk x.Used[k] (els x.Tracks).length (gUs.2 _ (List.getElem_mem h3))
    rw [hlt] at hc
    cases ho : rowOk x.Used[k] x.Tracks.length with
    | false =>
      rw [ho, ← hlt] at hc
      rw [peer_F (fun hp => by have := hp.2.2.2.2.2.1.1; rw [all_no h3 ho] at this; cases this)]
      refine A_skip ?_; refine T_n ?_; refine A_seq ?_; refine A_block ?_; refine A_seq ?_; refine A_region ?_; refine M0 (q_at rfl rfl rfl rfl (by omega) (by assumption) rfl) rfl rfl ?_
      refine M0 (q_lr1 rfl rfl rfl rfl) rfl rfl ?_; refine M0 (q_assignC rfl rfl rfl) rfl rfl ?_; refine L_nil ?_; refine T_n ?_; refine A_seq ?_; refine A_region ?_
      refine M0 (q_moveC rfl rfl rfl) rfl rfl ?_; refine M0 (q_moveC rfl rfl rfl) rfl rfl ?_; refine M0 (q_call0 rfl rfl (hc) rfl) rfl rfl ?_; refine M0 (q_not rfl rfl rfl) rfl rfl ?_
      refine L_nil ?_; refine T_n ?_; refine A_ifT rfl ?_; refine A_seq ?_; refine A_region ?_; refine M0 (q_assignC rfl rfl rfl) rfl rfl ?_; refine L_nil ?_; refine T_n ?_; refine A_ret ?_; refine B_r ?_
      refine T_r ?_; refine T_r ?_; refine B_r ?_; refine T_r ?_; refine F_r ?_
      exact E_tmp rfl rfl (W_end [] (by decide) rfl rfl rfl)
    | true =>
      rw [ho, ← hlt] at hc
      refine A_skip ?_; refine T_n ?_; refine A_seq ?_; refine A_block ?_; refine A_seq ?_; refine A_region ?_; refine M0 (q_at rfl rfl rfl rfl (by omega) (by assumption) rfl) rfl rfl ?_
      refine M0 (q_lr1 rfl rfl rfl rfl) rfl rfl ?_; refine M0 (q_assignC rfl rfl rfl) rfl rfl ?_; refine L_nil ?_; refine T_n ?_; refine A_seq ?_; refine A_region ?_
      refine M0 (q_moveC rfl rfl rfl) rfl rfl ?_; refine M0 (q_moveC rfl rfl rfl) rfl rfl ?_; refine M0 (q_call0 rfl rfl (hc) rfl) rfl rfl ?_; refine M0 (q_not rfl rfl rfl) rfl rfl ?_
      refine L_nil ?_; refine T_n ?_; refine A_ifF rfl ?_; refine A_skip ?_; refine B_n ?_; refine T_n ?_; refine A_region ?_; refine M0 (q_add rfl rfl rfl rfl (by omega)) rfl rfl ?_
      refine M0 (q_moveC rfl rfl rfl) rfl rfl ?_; refine L_nil ?_; refine T_n ?_
      exact ⟨x.Used.length - (k + 1), by omega, (fun k : Nat => (⟨_, [(1, .o (.c (.ptr 0 0))), (3, I (els x.Tracks).length), (120, L x.Used), (121, I (els x.Used).length), (122, I k)], [.box ((Enc.e x).map (V1.rd []))]⟩ : St)) (k + 1), W_go [0] (by decide) rfl (rfl) (.cons rfl (.cons rfl (.cons rfl (.cons rfl (.cons rfl (.nil)))))), k + 1, by omega, all_next hp_A h3 ho, rfl⟩
  have h3 : ¬ ((k : Int) < (els x.Used).length) := of_decide_eq_false h
  have hall := all_end hp_A (by omega)
  refine A_exit ?_; refine T_x ?_; refine T_x ?_; refine B_xs ?_; refine T_n ?_; refine A_seq ?_; refine A_seq ?_; refine A_region ?_; refine M0 (q_fldp rfl rfl rfl rfl (by decide)) rfl rfl ?_
  refine M0 (q_ld1 rfl rfl rfl rfl rfl) rfl rfl ?_; refine M0 (q_len rfl rfl rfl) rfl rfl ?_; refine M0 (q_moveC rfl rfl rfl) rfl rfl ?_; refine L_nil ?_; refine T_n ?_; refine A_block ?_
  refine A_loop (fun m st => ∃ j : Nat, j + m = x.Saves.length ∧ ((∀ i (h : i < x.Saves.length), i < j → x.Saves[i].Tick = x.Base.Tick + i)) ∧ st = (fun j : Nat => (⟨_, [(1, .o (.c (.ptr 0 0))), (3, I (els x.Tracks).length), (132, L x.Saves), (133, I (els x.Saves).length), (134, I j)], [.box ((Enc.e x).map (V1.rd []))]⟩ : St)) j) (x.Saves.length) ⟨(fun j : Nat => (⟨_, [(1, .o (.c (.ptr 0 0))), (3, I (els x.Tracks).length), (132, L x.Saves), (133, I (els x.Saves).length), (134, I j)], [.box ((Enc.e x).map (V1.rd []))]⟩ : St)) 0, W_go [0] (by decide) rfl (rfl) (.cons rfl (.cons rfl (.cons rfl (.cons rfl (.cons rfl (.nil)))))), 0, by omega, fun i _ hi => absurd hi (Nat.not_lt_zero _), rfl⟩ ?_
  rintro m_D _ ⟨j, hk_D, hp_D, rfl⟩
  refine A_seq ?_; refine A_region ?_; refine M0 (q_lss rfl rfl rfl rfl) rfl rfl ?_; refine L_nil ?_; refine T_n ?_; refine A_seq ?_
  refine A_cond rfl (fun h => ?_) (fun h => ?_)
  · have h4 : j < x.Saves.length := by have := of_decide_eq_true h; omega
    have hat := els_at h4
    by_cases ho : x.Saves[j].Tick = x.Base.Tick + j
    · have hb : decide (x.Saves[j].Tick ≠ x.Base.Tick + j) = false := decide_eq_false (fun h => h ho)
      refine A_skip ?_; refine T_n ?_; refine A_seq ?_; refine A_block ?_; refine A_seq ?_; refine A_region ?_; refine M0 (q_moveC rfl rfl rfl) rfl rfl ?_
      refine M0 (q_at rfl rfl rfl rfl (by omega) (by assumption) rfl) rfl rfl ?_; refine M0 (q_lrN rfl rfl rfl rfl rfl) rfl rfl ?_; refine M1 (q_alloc rfl rfl rfl) rfl rfl ?_
      refine M0 (q_assignC rfl rfl rfl) rfl rfl ?_; refine M_stN rfl rfl rfl rfl rfl rfl rfl rfl rfl ?_; refine L_nil ?_; refine T_n ?_; refine A_seq ?_; refine A_region ?_
      refine M0 (q_fldp rfl rfl rfl rfl (by decide)) rfl rfl ?_; refine M0 (q_ld1 rfl rfl rfl rfl rfl) rfl rfl ?_; refine M0 (q_fldp rfl rfl rfl rfl (by decide)) rfl rfl ?_
      refine M0 (q_fldp rfl rfl rfl rfl (by decide)) rfl rfl ?_; refine M0 (q_ld1 rfl rfl rfl rfl rfl) rfl rfl ?_; refine M0 (q_moveC rfl rfl rfl) rfl rfl ?_
      refine M0 (q_add rfl rfl rfl rfl (by omega)) rfl rfl ?_; refine M0 (q_neqK rfl rfl rfl rfl (by assumption)) rfl rfl ?_; refine L_nil ?_; refine T_n ?_; refine A_ifF rfl ?_; refine A_skip ?_
      refine B_n ?_; refine T_n ?_; refine A_region ?_; refine M0 (q_add rfl rfl rfl rfl (by omega)) rfl rfl ?_; refine M0 (q_moveC rfl rfl rfl) rfl rfl ?_; refine L_nil ?_; refine T_n ?_
      exact ⟨x.Saves.length - (j + 1), by omega, (fun j : Nat => (⟨_, [(1, .o (.c (.ptr 0 0))), (3, I (els x.Tracks).length), (132, L x.Saves), (133, I (els x.Saves).length), (134, I j)], [.box ((Enc.e x).map (V1.rd []))]⟩ : St)) (j + 1), W_go [0] (by decide) rfl (rfl) (.cons rfl (.cons rfl (.cons rfl (.cons rfl (.cons rfl (.nil)))))), j + 1, by omega, fun i hi hij => by by_cases e : i = j; subst e; exact ho; exact hp_D i hi (by omega), rfl⟩
    · have hb : decide (x.Saves[j].Tick ≠ x.Base.Tick + j) = true := decide_eq_true ho
      rw [peer_F (fun hp => ho (hp.2.2.2.2.2.1.2 j h4))]
      refine A_skip ?_; refine T_n ?_; refine A_seq ?_; refine A_block ?_; refine A_seq ?_; refine A_region ?_; refine M0 (q_moveC rfl rfl rfl) rfl rfl ?_
      refine M0 (q_at rfl rfl rfl rfl (by omega) (by assumption) rfl) rfl rfl ?_; refine M0 (q_lrN rfl rfl rfl rfl rfl) rfl rfl ?_; refine M1 (q_alloc rfl rfl rfl) rfl rfl ?_
      refine M0 (q_assignC rfl rfl rfl) rfl rfl ?_; refine M_stN rfl rfl rfl rfl rfl rfl rfl rfl rfl ?_; refine L_nil ?_; refine T_n ?_; refine A_seq ?_; refine A_region ?_
      refine M0 (q_fldp rfl rfl rfl rfl (by decide)) rfl rfl ?_; refine M0 (q_ld1 rfl rfl rfl rfl rfl) rfl rfl ?_; refine M0 (q_fldp rfl rfl rfl rfl (by decide)) rfl rfl ?_
      refine M0 (q_fldp rfl rfl rfl rfl (by decide)) rfl rfl ?_; refine M0 (q_ld1 rfl rfl rfl rfl rfl) rfl rfl ?_; refine M0 (q_moveC rfl rfl rfl) rfl rfl ?_
      refine M0 (q_add rfl rfl rfl rfl (by omega)) rfl rfl ?_; refine M0 (q_neqK rfl rfl rfl rfl (by assumption)) rfl rfl ?_; refine L_nil ?_; refine T_n ?_; refine A_ifT rfl ?_; refine A_seq ?_
      refine A_region ?_; refine M0 (q_assignC rfl rfl rfl) rfl rfl ?_; refine L_nil ?_; refine T_n ?_; refine A_ret ?_; refine B_r ?_; refine T_r ?_; refine T_r ?_; refine B_r ?_; refine T_r ?_
      refine F_r ?_
      exact E_tmp rfl rfl (W_end [] (by decide) rfl rfl rfl)
  have h4 : ¬ ((j : Int) < (els x.Saves).length) := of_decide_eq_false h
  have hme : x.Me.toNat < x.Tracks.length := by omega
  have hat := at_nat (xs := x.Tracks) hme
  have hti := els_len x.Tracks[x.Me.toNat].Inputs
  have hla := lenAt_is hme
  rw [← fin_eq ⟨q1, q2, q3, q4⟩ ⟨by omega, by omega, q7⟩ ⟨q8, q9, q10⟩ ⟨q11, q12, q13⟩ ⟨q14, q15, q16⟩ ⟨hall, fun i hi => hp_D i hi (by omega)⟩, ← hlm]
  by_cases k1 : x.Base.Tick ≤ (knownTicks x.Tracks : Nat)
  · have hb1 : decide (x.Base.Tick ≤ ((knownTicks x.Tracks : Nat) : Int)) = true := decide_eq_true k1
    by_cases k2 : x.Now.Tick ≤ (lenAt x.Tracks x.Me.toNat : Nat)
    · have hb2 : decide (x.Now.Tick ≤ ((els x.Tracks[x.Me.toNat].Inputs).length : Int)) = true := decide_eq_true (by omega)
      rw [hb1, decide_eq_true k2]
      refine A_exit ?_; refine T_x ?_; refine T_x ?_; refine B_xs ?_; refine T_n ?_; refine A_seq ?_
      refine A_draw [[], [0], [0, 1], [], [3], [3, 4], [0, 1, 2, 3, 4, 5], [0, 1, 2, 3, 4, 5, 6], [0, 1, 2, 3, 4, 5, 6, 7], [0, 1, 2, 3, 4, 5, 6, 7, 8], [0, 1, 2, 3, 4, 5, 6, 7], [0, 1, 2, 3, 4, 5, 6, 7, 10], [0, 1, 2, 3, 4, 5, 6, 7, 8, 9, 10, 11], [0, 1, 2, 3, 4, 5, 6, 7, 8, 9, 10, 11, 12], [0, 1, 2, 3, 4, 5, 6, 7, 8, 9, 10, 11, 12, 13], [0, 1, 2, 3, 4, 5, 6, 7, 8, 9, 10, 11, 12, 13, 14], [0, 1, 2, 3, 4, 5, 6, 7], [0, 1, 2, 3, 4, 5, 6, 7, 16], [0, 1, 2, 3, 4, 5, 6, 7, 16, 17], [0, 1, 2, 3, 4, 5, 6, 7, 8, 9, 10, 11, 12, 13, 14, 15, 16, 17, 18], [0, 1, 2, 3, 4, 5, 6, 7, 8, 9, 10, 11, 12, 13, 14, 15, 16, 17, 18, 19], [0, 1, 2, 3, 4, 5, 6, 7, 8, 9, 10, 11, 12, 13, 14, 15, 16, 17, 18, 19, 20], [0, 1, 2, 3, 4, 5, 6, 7, 8, 9, 10, 11, 12, 13, 14, 15, 16, 17, 18, 19, 20, 21], [0, 1, 2, 3, 4, 5, 6, 7, 8, 9, 10, 11, 12, 13, 14, 15, 16, 17, 18, 19, 20, 21, 22], [0, 1, 2, 3, 4, 5, 6, 7, 8, 9, 10, 11, 12, 13, 14, 15, 16, 17, 18, 19, 20, 21, 22, 23], [0, 1, 2, 3, 4, 5, 6, 7, 8, 9, 10, 11, 12, 13, 14, 15, 16, 17, 18, 19, 20, 21], [0, 1, 2, 3, 4, 5, 6, 7, 8, 9, 10, 11, 12, 13, 14, 15, 16, 17, 18, 19, 20, 21, 25], [0, 1, 2, 3, 4, 5, 6, 7, 8, 9, 10, 11, 12, 13, 14, 15, 16, 17, 18, 19, 20, 21, 25, 26], [0, 1, 2, 3, 4, 5, 6, 7, 8, 9, 10, 11, 12, 13, 14, 15, 16, 17, 18, 19, 20, 21, 25, 26, 27], [0, 1, 2, 3, 4, 5, 6, 7, 8, 9, 10, 11, 12, 13, 14, 15, 16, 17, 18, 19, 20, 21, 22, 23, 24, 25, 26, 27, 28], [0, 1, 2, 3, 4, 5, 6, 7, 8, 9, 10, 11, 12, 13, 14, 15, 16, 17, 18, 19, 20, 21, 22, 23, 24, 25, 26, 27, 28, 29], [0, 1, 2, 3, 4, 5, 6, 7, 8, 9, 10, 11, 12, 13, 14, 15, 16, 17, 18, 19, 20, 21, 22, 23, 24, 25, 26, 27, 28, 29, 30]] [[], [148], [148, 149], [], [151], [151, 152], [148, 149, 150, 151, 152, 153], [148, 149, 150, 151, 152, 153, 154], [148, 149, 150, 151, 152, 153, 154, 155], [148, 149, 150, 151, 152, 153, 154, 155, 156], [148, 149, 150, 151, 152, 153, 154, 155], [148, 149, 150, 151, 152, 153, 154, 155, 158], [148, 149, 150, 151, 152, 153, 154, 155, 156, 157, 158, 159], [148, 149, 150, 151, 152, 153, 154, 155, 156, 157, 158, 159, 160], [148, 149, 150, 151, 152, 153, 154, 155, 156, 157, 158, 159, 160, 161], [148, 149, 150, 151, 152, 153, 154, 155, 156, 157, 158, 159, 160, 161, 162], [148, 149, 150, 151, 152, 153, 154, 155], [148, 149, 150, 151, 152, 153, 154, 155, 164], [148, 149, 150, 151, 152, 153, 154, 155, 164, 165], [148, 149, 150, 151, 152, 153, 154, 155, 156, 157, 158, 159, 160, 161, 162, 163, 164, 165, 166], [148, 149, 150, 151, 152, 153, 154, 155, 156, 157, 158, 159, 160, 161, 162, 163, 164, 165, 166, 167], [148, 149, 150, 151, 152, 153, 154, 155, 156, 157, 158, 159, 160, 161, 162, 163, 164, 165, 166, 167, 168], [148, 149, 150, 151, 152, 153, 154, 155, 156, 157, 158, 159, 160, 161, 162, 163, 164, 165, 166, 167, 168, 169], [148, 149, 150, 151, 152, 153, 154, 155, 156, 157, 158, 159, 160, 161, 162, 163, 164, 165, 166, 167, 168, 169, 170], [148, 149, 150, 151, 152, 153, 154, 155, 156, 157, 158, 159, 160, 161, 162, 163, 164, 165, 166, 167, 168, 169, 170, 171], [148, 149, 150, 151, 152, 153, 154, 155, 156, 157, 158, 159, 160, 161, 162, 163, 164, 165, 166, 167, 168, 169], [148, 149, 150, 151, 152, 153, 154, 155, 156, 157, 158, 159, 160, 161, 162, 163, 164, 165, 166, 167, 168, 169, 173], [148, 149, 150, 151, 152, 153, 154, 155, 156, 157, 158, 159, 160, 161, 162, 163, 164, 165, 166, 167, 168, 169, 173, 174], [148, 149, 150, 151, 152, 153, 154, 155, 156, 157, 158, 159, 160, 161, 162, 163, 164, 165, 166, 167, 168, 169, 173, 174, 175], [148, 149, 150, 151, 152, 153, 154, 155, 156, 157, 158, 159, 160, 161, 162, 163, 164, 165, 166, 167, 168, 169, 170, 171, 172, 173, 174, 175, 176], [148, 149, 150, 151, 152, 153, 154, 155, 156, 157, 158, 159, 160, 161, 162, 163, 164, 165, 166, 167, 168, 169, 170, 171, 172, 173, 174, 175, 176, 177], [148, 149, 150, 151, 152, 153, 154, 155, 156, 157, 158, 159, 160, 161, 162, 163, 164, 165, 166, 167, 168, 169, 170, 171, 172, 173, 174, 175, 176, 177, 178]] [[151, 152, 153], [151, 152, 153], [151, 152, 153], [148, 149, 150], [148, 149, 150], [148, 149, 150], [], [], [158, 159, 164, 165, 166], [158, 159, 164, 165, 166], [156, 157, 164, 165, 166], [156, 157, 164, 165, 166], [164, 165, 166], [164, 165, 166], [164, 165, 166], [164, 165, 166], [156, 157, 158, 159, 160, 161, 162, 163], [156, 157, 158, 159, 160, 161, 162, 163], [156, 157, 158, 159, 160, 161, 162, 163], [], [], [], [173, 174, 175, 176], [173, 174, 175, 176], [173, 174, 175, 176], [170, 171, 172], [170, 171, 172], [170, 171, 172], [170, 171, 172], [], [], []] rfl ?_
      refine DR.step (q_fldp rfl rfl rfl rfl (by decide)) rfl rfl ?_; refine DR.step (q_fldp rfl rfl rfl rfl (by decide)) rfl rfl ?_; refine DR.step (q_ld1 rfl rfl rfl rfl rfl) rfl rfl ?_
      refine DR.step (q_fldp rfl rfl rfl rfl (by decide)) rfl rfl ?_; refine DR.step (q_ld1 rfl rfl rfl rfl rfl) rfl rfl ?_; refine DR.step (q_call0 rfl rfl (c6) rfl) rfl rfl ?_
      refine DR.step (q_leqK rfl rfl rfl rfl (by assumption)) rfl rfl ?_; refine DR.step (q_moveC rfl rfl rfl) rfl rfl ?_
      refine DR.step (Qt.yes rfl rfl rfl (q_fldp rfl rfl rfl rfl (by decide))) rfl rfl ?_; refine DR.step (Qt.yes rfl rfl rfl (q_ld1 rfl rfl rfl rfl rfl)) rfl rfl ?_
      refine DR.step (Qt.yes rfl rfl rfl (q_fldp rfl rfl rfl rfl (by decide))) rfl rfl ?_; refine DR.step (Qt.yes rfl rfl rfl (q_ld1 rfl rfl rfl rfl rfl)) rfl rfl ?_
      refine DR.step (Qt.yes rfl rfl rfl (q_at rfl rfl rfl rfl (by omega) (by assumption) rfl)) rfl rfl ?_
      refine DR.step (Qt.yes rfl rfl rfl (q_fldr rfl rfl rfl rfl (by decide))) rfl rfl ?_; refine DR.step (Qt.yes rfl rfl rfl (q_lr1 rfl rfl rfl rfl)) rfl rfl ?_
      refine DR.step (Qt.yes rfl rfl rfl (q_len rfl rfl rfl)) rfl rfl ?_; refine DR.step (Qt.yes rfl rfl rfl (q_fldp rfl rfl rfl rfl (by decide))) rfl rfl ?_
      refine DR.step (Qt.yes rfl rfl rfl (q_fldp rfl rfl rfl rfl (by decide))) rfl rfl ?_; refine DR.step (Qt.yes rfl rfl rfl (q_ld1 rfl rfl rfl rfl rfl)) rfl rfl ?_
      refine DR.step (Qt.yes rfl rfl rfl (q_geqK rfl rfl rfl rfl (by assumption))) rfl rfl ?_; refine DR.step (q_pickT rfl rfl rfl rfl) rfl rfl ?_
      refine DR.step (q_moveC rfl rfl rfl) rfl rfl ?_; refine DR.step (Qt.yes rfl rfl rfl (q_fldp rfl rfl rfl rfl (by decide))) rfl rfl ?_
      refine DR.step (Qt.yes rfl rfl rfl (q_ld1 rfl rfl rfl rfl rfl)) rfl rfl ?_; refine DR.step (Qt.yes rfl rfl rfl (q_len rfl rfl rfl)) rfl rfl ?_
      refine DR.step (Qt.yes rfl rfl rfl (q_fldp rfl rfl rfl rfl (by decide))) rfl rfl ?_; refine DR.step (Qt.yes rfl rfl rfl (q_fldp rfl rfl rfl rfl (by decide))) rfl rfl ?_
      refine DR.step (Qt.yes rfl rfl rfl (q_ld1 rfl rfl rfl rfl rfl)) rfl rfl ?_; refine DR.step (Qt.yes rfl rfl rfl (q_add rfl rfl rfl rfl (by omega))) rfl rfl ?_
      refine DR.step (Qt.yes rfl rfl rfl (q_eql rfl rfl rfl rfl)) rfl rfl ?_; refine DR.step (q_pickT rfl rfl rfl rfl) rfl rfl ?_; refine DR.step (q_assignC rfl rfl rfl) rfl rfl ?_
      refine DR.stop (by kernel_rfl) (by kernel_rfl) ?_
      refine L_nil ?_; refine T_n ?_; refine A_ret ?_; refine F_r ?_
      exact E_tmp rfl rfl (W_end [] (by decide) rfl rfl rfl)
    · have hb2 : decide (x.Now.Tick ≤ ((els x.Tracks[x.Me.toNat].Inputs).length : Int)) = false := decide_eq_false (by omega)
      rw [hb1, decide_eq_false k2]
      refine A_exit ?_; refine T_x ?_; refine T_x ?_; refine B_xs ?_; refine T_n ?_; refine A_seq ?_
      refine A_draw [[], [0], [0, 1], [], [3], [3, 4], [0, 1, 2, 3, 4, 5], [0, 1, 2, 3, 4, 5, 6], [0, 1, 2, 3, 4, 5, 6, 7], [0, 1, 2, 3, 4, 5, 6, 7, 8], [0, 1, 2, 3, 4, 5, 6, 7], [0, 1, 2, 3, 4, 5, 6, 7, 10], [0, 1, 2, 3, 4, 5, 6, 7, 8, 9, 10, 11], [0, 1, 2, 3, 4, 5, 6, 7, 8, 9, 10, 11, 12], [0, 1, 2, 3, 4, 5, 6, 7, 8, 9, 10, 11, 12, 13], [0, 1, 2, 3, 4, 5, 6, 7, 8, 9, 10, 11, 12, 13, 14], [0, 1, 2, 3, 4, 5, 6, 7], [0, 1, 2, 3, 4, 5, 6, 7, 16], [0, 1, 2, 3, 4, 5, 6, 7, 16, 17], [0, 1, 2, 3, 4, 5, 6, 7, 8, 9, 10, 11, 12, 13, 14, 15, 16, 17, 18], [0, 1, 2, 3, 4, 5, 6, 7, 8, 9, 10, 11, 12, 13, 14, 15, 16, 17, 18, 19], [0, 1, 2, 3, 4, 5, 6, 7, 8, 9, 10, 11, 12, 13, 14, 15, 16, 17, 18, 19, 20], [0, 1, 2, 3, 4, 5, 6, 7, 8, 9, 10, 11, 12, 13, 14, 15, 16, 17, 18, 19, 20, 21], [0, 1, 2, 3, 4, 5, 6, 7, 8, 9, 10, 11, 12, 13, 14, 15, 16, 17, 18, 19, 20, 21, 22], [0, 1, 2, 3, 4, 5, 6, 7, 8, 9, 10, 11, 12, 13, 14, 15, 16, 17, 18, 19, 20, 21, 22, 23], [0, 1, 2, 3, 4, 5, 6, 7, 8, 9, 10, 11, 12, 13, 14, 15, 16, 17, 18, 19, 20, 21], [0, 1, 2, 3, 4, 5, 6, 7, 8, 9, 10, 11, 12, 13, 14, 15, 16, 17, 18, 19, 20, 21, 25], [0, 1, 2, 3, 4, 5, 6, 7, 8, 9, 10, 11, 12, 13, 14, 15, 16, 17, 18, 19, 20, 21, 25, 26], [0, 1, 2, 3, 4, 5, 6, 7, 8, 9, 10, 11, 12, 13, 14, 15, 16, 17, 18, 19, 20, 21, 25, 26, 27], [0, 1, 2, 3, 4, 5, 6, 7, 8, 9, 10, 11, 12, 13, 14, 15, 16, 17, 18, 19, 20, 21, 22, 23, 24, 25, 26, 27, 28], [0, 1, 2, 3, 4, 5, 6, 7, 8, 9, 10, 11, 12, 13, 14, 15, 16, 17, 18, 19, 20, 21, 22, 23, 24, 25, 26, 27, 28, 29], [0, 1, 2, 3, 4, 5, 6, 7, 8, 9, 10, 11, 12, 13, 14, 15, 16, 17, 18, 19, 20, 21, 22, 23, 24, 25, 26, 27, 28, 29, 30]] [[], [148], [148, 149], [], [151], [151, 152], [148, 149, 150, 151, 152, 153], [148, 149, 150, 151, 152, 153, 154], [148, 149, 150, 151, 152, 153, 154, 155], [148, 149, 150, 151, 152, 153, 154, 155, 156], [148, 149, 150, 151, 152, 153, 154, 155], [148, 149, 150, 151, 152, 153, 154, 155, 158], [148, 149, 150, 151, 152, 153, 154, 155, 156, 157, 158, 159], [148, 149, 150, 151, 152, 153, 154, 155, 156, 157, 158, 159, 160], [148, 149, 150, 151, 152, 153, 154, 155, 156, 157, 158, 159, 160, 161], [148, 149, 150, 151, 152, 153, 154, 155, 156, 157, 158, 159, 160, 161, 162], [148, 149, 150, 151, 152, 153, 154, 155], [148, 149, 150, 151, 152, 153, 154, 155, 164], [148, 149, 150, 151, 152, 153, 154, 155, 164, 165], [148, 149, 150, 151, 152, 153, 154, 155, 156, 157, 158, 159, 160, 161, 162, 163, 164, 165, 166], [148, 149, 150, 151, 152, 153, 154, 155, 156, 157, 158, 159, 160, 161, 162, 163, 164, 165, 166, 167], [148, 149, 150, 151, 152, 153, 154, 155, 156, 157, 158, 159, 160, 161, 162, 163, 164, 165, 166, 167, 168], [148, 149, 150, 151, 152, 153, 154, 155, 156, 157, 158, 159, 160, 161, 162, 163, 164, 165, 166, 167, 168, 169], [148, 149, 150, 151, 152, 153, 154, 155, 156, 157, 158, 159, 160, 161, 162, 163, 164, 165, 166, 167, 168, 169, 170], [148, 149, 150, 151, 152, 153, 154, 155, 156, 157, 158, 159, 160, 161, 162, 163, 164, 165, 166, 167, 168, 169, 170, 171], [148, 149, 150, 151, 152, 153, 154, 155, 156, 157, 158, 159, 160, 161, 162, 163, 164, 165, 166, 167, 168, 169], [148, 149, 150, 151, 152, 153, 154, 155, 156, 157, 158, 159, 160, 161, 162, 163, 164, 165, 166, 167, 168, 169, 173], [148, 149, 150, 151, 152, 153, 154, 155, 156, 157, 158, 159, 160, 161, 162, 163, 164, 165, 166, 167, 168, 169, 173, 174], [148, 149, 150, 151, 152, 153, 154, 155, 156, 157, 158, 159, 160, 161, 162, 163, 164, 165, 166, 167, 168, 169, 173, 174, 175], [148, 149, 150, 151, 152, 153, 154, 155, 156, 157, 158, 159, 160, 161, 162, 163, 164, 165, 166, 167, 168, 169, 170, 171, 172, 173, 174, 175, 176], [148, 149, 150, 151, 152, 153, 154, 155, 156, 157, 158, 159, 160, 161, 162, 163, 164, 165, 166, 167, 168, 169, 170, 171, 172, 173, 174, 175, 176, 177], [148, 149, 150, 151, 152, 153, 154, 155, 156, 157, 158, 159, 160, 161, 162, 163, 164, 165, 166, 167, 168, 169, 170, 171, 172, 173, 174, 175, 176, 177, 178]] [[151, 152, 153], [151, 152, 153], [151, 152, 153], [148, 149, 150], [148, 149, 150], [148, 149, 150], [], [], [158, 159, 164, 165, 166], [158, 159, 164, 165, 166], [156, 157, 164, 165, 166], [156, 157, 164, 165, 166], [164, 165, 166], [164, 165, 166], [164, 165, 166], [164, 165, 166], [156, 157, 158, 159, 160, 161, 162, 163], [156, 157, 158, 159, 160, 161, 162, 163], [156, 157, 158, 159, 160, 161, 162, 163], [], [], [], [173, 174, 175, 176], [173, 174, 175, 176], [173, 174, 175, 176], [170, 171, 172], [170, 171, 172], [170, 171, 172], [170, 171, 172], [], [], []] rfl ?_
      refine DR.step (q_fldp rfl rfl rfl rfl (by decide)) rfl rfl ?_; refine DR.step (q_fldp rfl rfl rfl rfl (by decide)) rfl rfl ?_; refine DR.step (q_ld1 rfl rfl rfl rfl rfl) rfl rfl ?_
      refine DR.step (q_fldp rfl rfl rfl rfl (by decide)) rfl rfl ?_; refine DR.step (q_ld1 rfl rfl rfl rfl rfl) rfl rfl ?_; refine DR.step (q_call0 rfl rfl (c6) rfl) rfl rfl ?_
      refine DR.step (q_leqK rfl rfl rfl rfl (by assumption)) rfl rfl ?_; refine DR.step (q_moveC rfl rfl rfl) rfl rfl ?_
      refine DR.step (Qt.yes rfl rfl rfl (q_fldp rfl rfl rfl rfl (by decide))) rfl rfl ?_; refine DR.step (Qt.yes rfl rfl rfl (q_ld1 rfl rfl rfl rfl rfl)) rfl rfl ?_
      refine DR.step (Qt.yes rfl rfl rfl (q_fldp rfl rfl rfl rfl (by decide))) rfl rfl ?_; refine DR.step (Qt.yes rfl rfl rfl (q_ld1 rfl rfl rfl rfl rfl)) rfl rfl ?_
      refine DR.step (Qt.yes rfl rfl rfl (q_at rfl rfl rfl rfl (by omega) (by assumption) rfl)) rfl rfl ?_
      refine DR.step (Qt.yes rfl rfl rfl (q_fldr rfl rfl rfl rfl (by decide))) rfl rfl ?_; refine DR.step (Qt.yes rfl rfl rfl (q_lr1 rfl rfl rfl rfl)) rfl rfl ?_
      refine DR.step (Qt.yes rfl rfl rfl (q_len rfl rfl rfl)) rfl rfl ?_; refine DR.step (Qt.yes rfl rfl rfl (q_fldp rfl rfl rfl rfl (by decide))) rfl rfl ?_
      refine DR.step (Qt.yes rfl rfl rfl (q_fldp rfl rfl rfl rfl (by decide))) rfl rfl ?_; refine DR.step (Qt.yes rfl rfl rfl (q_ld1 rfl rfl rfl rfl rfl)) rfl rfl ?_
      refine DR.step (Qt.yes rfl rfl rfl (q_geqK rfl rfl rfl rfl (by assumption))) rfl rfl ?_; refine DR.step (q_pickT rfl rfl rfl rfl) rfl rfl ?_
      refine DR.step (q_moveC rfl rfl rfl) rfl rfl ?_; refine DR.step (Qt.no rfl rfl rfl rfl) rfl rfl ?_; refine DR.step (Qt.no rfl rfl rfl rfl) rfl rfl ?_
      refine DR.step (Qt.no rfl rfl rfl rfl) rfl rfl ?_; refine DR.step (Qt.no rfl rfl rfl rfl) rfl rfl ?_; refine DR.step (Qt.no rfl rfl rfl rfl) rfl rfl ?_
      refine DR.step (Qt.no rfl rfl rfl rfl) rfl rfl ?_; refine DR.step (Qt.no rfl rfl rfl rfl) rfl rfl ?_; refine DR.step (Qt.no rfl rfl rfl rfl) rfl rfl ?_
      refine DR.step (q_pickF rfl rfl rfl rfl) rfl rfl ?_; refine DR.step (q_assignC rfl rfl rfl) rfl rfl ?_; refine DR.stop (by kernel_rfl) (by kernel_rfl) ?_
      refine L_nil ?_; refine T_n ?_; refine A_ret ?_; refine F_r ?_
      exact E_tmp rfl rfl (W_end [] (by decide) rfl rfl rfl)
  · have hb1 : decide (x.Base.Tick ≤ ((knownTicks x.Tracks : Nat) : Int)) = false := decide_eq_false k1
    rw [hb1]
    refine A_exit ?_; refine T_x ?_; refine T_x ?_; refine B_xs ?_; refine T_n ?_; refine A_seq ?_
    refine A_draw [[], [0], [0, 1], [], [3], [3, 4], [0, 1, 2, 3, 4, 5], [0, 1, 2, 3, 4, 5, 6], [0, 1, 2, 3, 4, 5, 6, 7], [0, 1, 2, 3, 4, 5, 6, 7, 8], [0, 1, 2, 3, 4, 5, 6, 7], [0, 1, 2, 3, 4, 5, 6, 7, 10], [0, 1, 2, 3, 4, 5, 6, 7, 8, 9, 10, 11], [0, 1, 2, 3, 4, 5, 6, 7, 8, 9, 10, 11, 12], [0, 1, 2, 3, 4, 5, 6, 7, 8, 9, 10, 11, 12, 13], [0, 1, 2, 3, 4, 5, 6, 7, 8, 9, 10, 11, 12, 13, 14], [0, 1, 2, 3, 4, 5, 6, 7], [0, 1, 2, 3, 4, 5, 6, 7, 16], [0, 1, 2, 3, 4, 5, 6, 7, 16, 17], [0, 1, 2, 3, 4, 5, 6, 7, 8, 9, 10, 11, 12, 13, 14, 15, 16, 17, 18], [0, 1, 2, 3, 4, 5, 6, 7, 8, 9, 10, 11, 12, 13, 14, 15, 16, 17, 18, 19], [0, 1, 2, 3, 4, 5, 6, 7, 8, 9, 10, 11, 12, 13, 14, 15, 16, 17, 18, 19, 20], [0, 1, 2, 3, 4, 5, 6, 7, 8, 9, 10, 11, 12, 13, 14, 15, 16, 17, 18, 19, 20, 21], [0, 1, 2, 3, 4, 5, 6, 7, 8, 9, 10, 11, 12, 13, 14, 15, 16, 17, 18, 19, 20, 21, 22], [0, 1, 2, 3, 4, 5, 6, 7, 8, 9, 10, 11, 12, 13, 14, 15, 16, 17, 18, 19, 20, 21, 22, 23], [0, 1, 2, 3, 4, 5, 6, 7, 8, 9, 10, 11, 12, 13, 14, 15, 16, 17, 18, 19, 20, 21], [0, 1, 2, 3, 4, 5, 6, 7, 8, 9, 10, 11, 12, 13, 14, 15, 16, 17, 18, 19, 20, 21, 25], [0, 1, 2, 3, 4, 5, 6, 7, 8, 9, 10, 11, 12, 13, 14, 15, 16, 17, 18, 19, 20, 21, 25, 26], [0, 1, 2, 3, 4, 5, 6, 7, 8, 9, 10, 11, 12, 13, 14, 15, 16, 17, 18, 19, 20, 21, 25, 26, 27], [0, 1, 2, 3, 4, 5, 6, 7, 8, 9, 10, 11, 12, 13, 14, 15, 16, 17, 18, 19, 20, 21, 22, 23, 24, 25, 26, 27, 28], [0, 1, 2, 3, 4, 5, 6, 7, 8, 9, 10, 11, 12, 13, 14, 15, 16, 17, 18, 19, 20, 21, 22, 23, 24, 25, 26, 27, 28, 29], [0, 1, 2, 3, 4, 5, 6, 7, 8, 9, 10, 11, 12, 13, 14, 15, 16, 17, 18, 19, 20, 21, 22, 23, 24, 25, 26, 27, 28, 29, 30]] [[], [148], [148, 149], [], [151], [151, 152], [148, 149, 150, 151, 152, 153], [148, 149, 150, 151, 152, 153, 154], [148, 149, 150, 151, 152, 153, 154, 155], [148, 149, 150, 151, 152, 153, 154, 155, 156], [148, 149, 150, 151, 152, 153, 154, 155], [148, 149, 150, 151, 152, 153, 154, 155, 158], [148, 149, 150, 151, 152, 153, 154, 155, 156, 157, 158, 159], [148, 149, 150, 151, 152, 153, 154, 155, 156, 157, 158, 159, 160], [148, 149, 150, 151, 152, 153, 154, 155, 156, 157, 158, 159, 160, 161], [148, 149, 150, 151, 152, 153, 154, 155, 156, 157, 158, 159, 160, 161, 162], [148, 149, 150, 151, 152, 153, 154, 155], [148, 149, 150, 151, 152, 153, 154, 155, 164], [148, 149, 150, 151, 152, 153, 154, 155, 164, 165], [148, 149, 150, 151, 152, 153, 154, 155, 156, 157, 158, 159, 160, 161, 162, 163, 164, 165, 166], [148, 149, 150, 151, 152, 153, 154, 155, 156, 157, 158, 159, 160, 161, 162, 163, 164, 165, 166, 167], [148, 149, 150, 151, 152, 153, 154, 155, 156, 157, 158, 159, 160, 161, 162, 163, 164, 165, 166, 167, 168], [148, 149, 150, 151, 152, 153, 154, 155, 156, 157, 158, 159, 160, 161, 162, 163, 164, 165, 166, 167, 168, 169], [148, 149, 150, 151, 152, 153, 154, 155, 156, 157, 158, 159, 160, 161, 162, 163, 164, 165, 166, 167, 168, 169, 170], [148, 149, 150, 151, 152, 153, 154, 155, 156, 157, 158, 159, 160, 161, 162, 163, 164, 165, 166, 167, 168, 169, 170, 171], [148, 149, 150, 151, 152, 153, 154, 155, 156, 157, 158, 159, 160, 161, 162, 163, 164, 165, 166, 167, 168, 169], [148, 149, 150, 151, 152, 153, 154, 155, 156, 157, 158, 159, 160, 161, 162, 163, 164, 165, 166, 167, 168, 169, 173], [148, 149, 150, 151, 152, 153, 154, 155, 156, 157, 158, 159, 160, 161, 162, 163, 164, 165, 166, 167, 168, 169, 173, 174], [148, 149, 150, 151, 152, 153, 154, 155, 156, 157, 158, 159, 160, 161, 162, 163, 164, 165, 166, 167, 168, 169, 173, 174, 175], [148, 149, 150, 151, 152, 153, 154, 155, 156, 157, 158, 159, 160, 161, 162, 163, 164, 165, 166, 167, 168, 169, 170, 171, 172, 173, 174, 175, 176], [148, 149, 150, 151, 152, 153, 154, 155, 156, 157, 158, 159, 160, 161, 162, 163, 164, 165, 166, 167, 168, 169, 170, 171, 172, 173, 174, 175, 176, 177], [148, 149, 150, 151, 152, 153, 154, 155, 156, 157, 158, 159, 160, 161, 162, 163, 164, 165, 166, 167, 168, 169, 170, 171, 172, 173, 174, 175, 176, 177, 178]] [[151, 152, 153], [151, 152, 153], [151, 152, 153], [148, 149, 150], [148, 149, 150], [148, 149, 150], [], [], [158, 159, 164, 165, 166], [158, 159, 164, 165, 166], [156, 157, 164, 165, 166], [156, 157, 164, 165, 166], [164, 165, 166], [164, 165, 166], [164, 165, 166], [164, 165, 166], [156, 157, 158, 159, 160, 161, 162, 163], [156, 157, 158, 159, 160, 161, 162, 163], [156, 157, 158, 159, 160, 161, 162, 163], [], [], [], [173, 174, 175, 176], [173, 174, 175, 176], [173, 174, 175, 176], [170, 171, 172], [170, 171, 172], [170, 171, 172], [170, 171, 172], [], [], []] rfl ?_
    refine DR.step (q_fldp rfl rfl rfl rfl (by decide)) rfl rfl ?_; refine DR.step (q_fldp rfl rfl rfl rfl (by decide)) rfl rfl ?_; refine DR.step (q_ld1 rfl rfl rfl rfl rfl) rfl rfl ?_
    refine DR.step (q_fldp rfl rfl rfl rfl (by decide)) rfl rfl ?_; refine DR.step (q_ld1 rfl rfl rfl rfl rfl) rfl rfl ?_; refine DR.step (q_call0 rfl rfl (c6) rfl) rfl rfl ?_
    refine DR.step (q_leqK rfl rfl rfl rfl (by assumption)) rfl rfl ?_; refine DR.step (q_moveC rfl rfl rfl) rfl rfl ?_; refine DR.step (Qt.no rfl rfl rfl rfl) rfl rfl ?_
    refine DR.step (Qt.no rfl rfl rfl rfl) rfl rfl ?_; refine DR.step (Qt.no rfl rfl rfl rfl) rfl rfl ?_; refine DR.step (Qt.no rfl rfl rfl rfl) rfl rfl ?_
    refine DR.step (Qt.no rfl rfl rfl rfl) rfl rfl ?_; refine DR.step (Qt.no rfl rfl rfl rfl) rfl rfl ?_; refine DR.step (Qt.no rfl rfl rfl rfl) rfl rfl ?_
    refine DR.step (Qt.no rfl rfl rfl rfl) rfl rfl ?_; refine DR.step (Qt.no rfl rfl rfl rfl) rfl rfl ?_; refine DR.step (Qt.no rfl rfl rfl rfl) rfl rfl ?_
    refine DR.step (Qt.no rfl rfl rfl rfl) rfl rfl ?_; refine DR.step (Qt.no rfl rfl rfl rfl) rfl rfl ?_; refine DR.step (q_pickF rfl rfl rfl rfl) rfl rfl ?_
    refine DR.step (q_moveC rfl rfl rfl) rfl rfl ?_; refine DR.step (Qt.no rfl rfl rfl rfl) rfl rfl ?_; refine DR.step (Qt.no rfl rfl rfl rfl) rfl rfl ?_
    refine DR.step (Qt.no rfl rfl rfl rfl) rfl rfl ?_; refine DR.step (Qt.no rfl rfl rfl rfl) rfl rfl ?_; refine DR.step (Qt.no rfl rfl rfl rfl) rfl rfl ?_
    refine DR.step (Qt.no rfl rfl rfl rfl) rfl rfl ?_; refine DR.step (Qt.no rfl rfl rfl rfl) rfl rfl ?_; refine DR.step (Qt.no rfl rfl rfl rfl) rfl rfl ?_
    refine DR.step (q_pickF rfl rfl rfl rfl) rfl rfl ?_; refine DR.step (q_assignC rfl rfl rfl) rfl rfl ?_; refine DR.stop (by kernel_rfl) (by kernel_rfl) ?_
    refine L_nil ?_; refine T_n ?_; refine A_ret ?_; refine F_r ?_
    exact E_tmp rfl rfl (W_end [] (by decide) rfl rfl rfl)
end Go.Proofs.Ytbpebmolbdplmaa
end

section
set_option linter.unusedSimpArgs false
set_option linter.unusedVariables false
set_option maxRecDepth 8000
namespace Go.Proofs.Ytbpebmolbdplmaa
open Go.RowKit

section
variable {p : TPeer}
theorem noS1 (h : ((((((!worldOk p.Base || !worldOk p.Now) || !decide (p.Base.Level = p.Now.Level)) || decide ((p.Base.Scores.length : Int) ≠ p.Tracks.length)) || decide ((p.Now.Scores.length : Int) ≠ p.Tracks.length)) || !tracksOk p.Tracks) || !faultOk p.Fault p.Tracks.length) = true) : ¬ PeerP p := fun ⟨⟨q1, q2, q3, q4⟩, ⟨q5, q6, q7⟩, _⟩ => by
  rw [q1, q2, q3, decide_eq_true q4, q7, decide_eq_false (by omega), decide_eq_false (by omega)] at h; exact absurd h (by decide)
theorem noS2 (h : ((((((((!inR p.Me 0 ((p.Tracks.length : Int) - 1) || !inR p.Delay 0 5) || !inR p.Ahead 1 8) || !inR p.Seed 0 65535) || !inR p.Rolls 0 1000000) || !inR p.Again 0 1000000) || !inR (p.Now.Tick - p.Base.Tick) 0 p.Ahead) || decide ((p.Used.length : Int) ≠ p.Now.Tick - p.Base.Tick)) || decide ((p.Saves.length : Int) ≠ p.Now.Tick - p.Base.Tick)) = true) : ¬ PeerP p := fun ⟨_, _, ⟨q1, q2, q3⟩, ⟨q4, q5, q6⟩, ⟨q7, q8, q9⟩, _⟩ => by
  rw [inR_iff.2 q1, inR_iff.2 q2, inR_iff.2 q3, inR_iff.2 q4, inR_iff.2 q5, inR_iff.2 q6, inR_iff.2 q7, decide_eq_false (by omega), decide_eq_false (by omega)] at h; exact absurd h (by decide)
end
set_option maxHeartbeats 8000000 in
theorem S_PeerOk (x : TPeer) (hg : Enc.gd x) : Con Try.prog 29 [] [ag x] [] (B (peerOk x)) := by
  obtain ⟨gMe, gDe, gAh, gSe, gTr, gBa, gNo, gUs, gSa, gSu, gFa, gRo, gAg⟩ := hg
  have hlt := els_len x.Tracks
  have hlu := els_len x.Used
  have hls := els_len x.Saves
  have hlm := els_len x.Sums
  have hlb := els_len x.Base.Scores
  have hln := els_len x.Now.Scores
  have c1 := S_TracksOk x.Tracks gTr
  have c2 := S_WorldOk x.Base gBa
  have c3 := S_WorldOk x.Now gNo
  have c4 := S_sameLevel x.Base.Level x.Now.Level gBa.1
  have c5 := S_FaultOk x.Fault (els x.Tracks).length (by omega) (by have := gTr.1; omega)
  have c6 := S_KnownTicks x.Tracks gTr
  refine Con.of Try.func29 rfl Try.ntmps29 rfl (fun E => ?_)
  refine A_seq ?_; refine A_region ?_; refine M1 (q_boxN rfl rfl rfl rfl) rfl rfl ?_; refine M0 (q_assignC rfl rfl rfl) rfl rfl ?_; refine L_nil ?_; refine T_n ?_; refine A_seq ?_
  refine A_region ?_; refine M0 (q_fldp rfl rfl rfl rfl (by decide)) rfl rfl ?_; refine M0 (q_ld1 rfl rfl rfl rfl rfl) rfl rfl ?_; refine M0 (q_len rfl rfl rfl) rfl rfl ?_
  refine M0 (q_assignC rfl rfl rfl) rfl rfl ?_; refine L_nil ?_; refine T_n ?_; refine A_seq ?_; refine A_seq ?_; refine A_region ?_; refine M0 (q_fldp rfl rfl rfl rfl (by decide)) rfl rfl ?_
  refine M0 (q_ldN rfl rfl rfl rfl rfl rfl) rfl rfl ?_; refine M0 (q_call0 rfl rfl (c2) rfl) rfl rfl ?_; refine M0 (q_not rfl rfl rfl) rfl rfl ?_
  refine M0 (q_moveC rfl rfl rfl) rfl rfl ?_; refine M0 (Qt.grdF rfl rfl rfl .stop (fun hgrd => q_fldp rfl rfl rfl rfl (by decide))) rfl rfl ?_
  refine M0 (Qt.grdF rfl rfl rfl (.hit .stop) (fun hgrd => q_ldN rfl rfl rfl rfl rfl rfl)) rfl rfl ?_
  refine M0 (Qt.grdF rfl rfl rfl (.hit (.hit .stop)) (fun hgrd => q_call0 rfl rfl (c3) rfl)) rfl rfl ?_
  refine M0 (Qt.grdF rfl rfl rfl (.hit (.hit (.hit .stop))) (fun hgrd => q_not rfl rfl rfl)) rfl rfl ?_; refine M0 (q_or rfl rfl rfl rfl) rfl rfl ?_
  refine M0 (q_moveC rfl rfl rfl) rfl rfl ?_; refine M0 (Qt.grdF rfl rfl rfl .stop (fun hgrd => q_fldp rfl rfl rfl rfl (by decide))) rfl rfl ?_
  refine M0 (Qt.grdF rfl rfl rfl (.hit .stop) (fun hgrd => q_fldp rfl rfl rfl rfl (by decide))) rfl rfl ?_
  refine M0 (Qt.grdF rfl rfl rfl (.hit (.hit .stop)) (fun hgrd => q_ldN rfl rfl rfl rfl rfl rfl)) rfl rfl ?_
  refine M0 (Qt.grdF rfl rfl rfl (.hit (.hit (.hit .stop))) (fun hgrd => q_fldp rfl rfl rfl rfl (by decide))) rfl rfl ?_
  refine M0 (Qt.grdF rfl rfl rfl (.hit (.hit (.hit (.hit .stop)))) (fun hgrd => q_fldp rfl rfl rfl rfl (by decide))) rfl rfl ?_
  refine M0 (Qt.grdF rfl rfl rfl (.hit (.hit (.hit (.hit (.hit .stop))))) (fun hgrd => q_ldN rfl rfl rfl rfl rfl rfl)) rfl rfl ?_
  refine M0 (Qt.grdF rfl rfl rfl (.hit (.hit (.hit (.hit (.hit (.hit .stop)))))) (fun hgrd => q_call0 rfl rfl (c4) rfl)) rfl rfl ?_
  refine M0 (Qt.grdF rfl rfl rfl (.hit (.hit (.hit (.hit (.hit (.hit (.hit .stop))))))) (fun hgrd => q_not rfl rfl rfl)) rfl rfl ?_; refine M0 (q_or rfl rfl rfl rfl) rfl rfl ?_
  refine M0 (q_moveC rfl rfl rfl) rfl rfl ?_; refine M0 (Qt.grdF rfl rfl rfl .stop (fun hgrd => q_fldp rfl rfl rfl rfl (by decide))) rfl rfl ?_
  refine M0 (Qt.grdF rfl rfl rfl (.hit .stop) (fun hgrd => q_fldp rfl rfl rfl rfl (by decide))) rfl rfl ?_
  refine M0 (Qt.grdF rfl rfl rfl (.hit (.hit .stop)) (fun hgrd => q_ld1 rfl rfl rfl rfl rfl)) rfl rfl ?_
  refine M0 (Qt.grdF rfl rfl rfl (.hit (.hit (.hit .stop))) (fun hgrd => q_len rfl rfl rfl)) rfl rfl ?_
  refine M0 (Qt.grdF rfl rfl rfl (.hit (.hit (.hit (.hit .stop)))) (fun hgrd => q_moveC rfl rfl rfl)) rfl rfl ?_
  refine M0 (Qt.grdF rfl rfl rfl (.hit (.hit (.hit (.hit (.hit .stop))))) (fun hgrd => q_neq rfl rfl rfl rfl)) rfl rfl ?_; refine M0 (q_or rfl rfl rfl rfl) rfl rfl ?_
  refine M0 (q_moveC rfl rfl rfl) rfl rfl ?_; refine M0 (Qt.grdF rfl rfl rfl .stop (fun hgrd => q_fldp rfl rfl rfl rfl (by decide))) rfl rfl ?_
  refine M0 (Qt.grdF rfl rfl rfl (.hit .stop) (fun hgrd => q_fldp rfl rfl rfl rfl (by decide))) rfl rfl ?_
  refine M0 (Qt.grdF rfl rfl rfl (.hit (.hit .stop)) (fun hgrd => q_ld1 rfl rfl rfl rfl rfl)) rfl rfl ?_
  refine M0 (Qt.grdF rfl rfl rfl (.hit (.hit (.hit .stop))) (fun hgrd => q_len rfl rfl rfl)) rfl rfl ?_
  refine M0 (Qt.grdF rfl rfl rfl (.hit (.hit (.hit (.hit .stop)))) (fun hgrd => q_moveC rfl rfl rfl)) rfl rfl ?_
  refine M0 (Qt.grdF rfl rfl rfl (.hit (.hit (.hit (.hit (.hit .stop))))) (fun hgrd => q_neq rfl rfl rfl rfl)) rfl rfl ?_; refine M0 (q_or rfl rfl rfl rfl) rfl rfl ?_
  refine M0 (q_moveC rfl rfl rfl) rfl rfl ?_; refine M0 (Qt.grdF rfl rfl rfl .stop (fun hgrd => q_fldp rfl rfl rfl rfl (by decide))) rfl rfl ?_
  refine M0 (Qt.grdF rfl rfl rfl (.hit .stop) (fun hgrd => q_ld1 rfl rfl rfl rfl rfl)) rfl rfl ?_
  refine M0 (Qt.grdF rfl rfl rfl (.hit (.hit .stop)) (fun hgrd => q_call0 rfl rfl (c1) rfl)) rfl rfl ?_
  refine M0 (Qt.grdF rfl rfl rfl (.hit (.hit (.hit .stop))) (fun hgrd => q_not rfl rfl rfl)) rfl rfl ?_; refine M0 (q_or rfl rfl rfl rfl) rfl rfl ?_
  refine M0 (q_moveC rfl rfl rfl) rfl rfl ?_; refine M0 (Qt.grdF rfl rfl rfl .stop (fun hgrd => q_fldp rfl rfl rfl rfl (by decide))) rfl rfl ?_
  refine M0 (Qt.grdF rfl rfl rfl (.hit .stop) (fun hgrd => q_ldN rfl rfl rfl rfl rfl rfl)) rfl rfl ?_
  refine M0 (Qt.grdF rfl rfl rfl (.hit (.hit .stop)) (fun hgrd => q_moveC rfl rfl rfl)) rfl rfl ?_
  refine M0 (Qt.grdF rfl rfl rfl (.hit (.hit (.hit .stop))) (fun hgrd => q_call0 rfl rfl (c5) rfl)) rfl rfl ?_
  refine M0 (Qt.grdF rfl rfl rfl (.hit (.hit (.hit (.hit .stop)))) (fun hgrd => q_not rfl rfl rfl)) rfl rfl ?_; refine M0 (q_or rfl rfl rfl rfl) rfl rfl ?_; refine L_nil ?_; refine T_n ?_
  refine A_cond rfl (fun h1 => ?_) (fun h1 => ?_)
  · rw [hlt, hlb, hln] at h1
    rw [peer_F (noS1 h1)]
    refine A_seq ?_; refine A_region ?_; refine M0 (q_assignC rfl rfl rfl) rfl rfl ?_; refine L_nil ?_; refine T_n ?_; refine A_ret ?_; refine T_r ?_; refine F_r ?_
    exact E_tmp rfl rfl (W_end [] (by decide) rfl rfl rfl)
  rw [hlt, hlb, hln] at h1
  simp only [Bool.or_eq_false_iff, Bool.not_eq_false', decide_eq_true_eq, decide_eq_false_iff_not, Classical.not_not] at h1
  obtain ⟨⟨⟨⟨⟨⟨q2, q3⟩, q4⟩, q5⟩, q6⟩, q1⟩, q7⟩ := h1
  have tB := world_ticks q2
  have tN := world_ticks q3
  have tL := tracks_spec q1
  refine AWP.pre (st' := (⟨_, [(1, .o (.c (.ptr 0 0))), (3, I (els x.Tracks).length)], [.box ((Enc.e x).map (V1.rd []))]⟩ : St)) ?_ (W_go [0] (by decide) rfl (rfl) (.cons rfl (.cons rfl (.nil))))
  refine A_skip ?_; refine T_n ?_; refine A_seq ?_; refine A_region ?_; refine M0 (q_fldp rfl rfl rfl rfl (by decide)) rfl rfl ?_; refine M0 (q_fldp rfl rfl rfl rfl (by decide)) rfl rfl ?_
  refine M0 (q_ld1 rfl rfl rfl rfl rfl) rfl rfl ?_; refine M0 (q_fldp rfl rfl rfl rfl (by decide)) rfl rfl ?_; refine M0 (q_fldp rfl rfl rfl rfl (by decide)) rfl rfl ?_
  refine M0 (q_ld1 rfl rfl rfl rfl rfl) rfl rfl ?_; refine M0 (q_sub rfl rfl rfl rfl (by omega)) rfl rfl ?_; refine M0 (q_assignC rfl rfl rfl) rfl rfl ?_; refine L_nil ?_; refine T_n ?_
  refine A_seq ?_; refine A_seq ?_; refine A_region ?_; refine M0 (q_fldp rfl rfl rfl rfl (by decide)) rfl rfl ?_; refine M0 (q_ld1 rfl rfl rfl rfl rfl) rfl rfl ?_
  refine M0 (q_moveC rfl rfl rfl) rfl rfl ?_; refine M0 (q_sub rfl rfl rfl rfl (by omega)) rfl rfl ?_
  refine M0 (q_call0 rfl rfl (S_in x.Me 0 (((els x.Tracks).length : Int) - 1)) rfl) rfl rfl ?_; refine M0 (q_not rfl rfl rfl) rfl rfl ?_; refine M0 (q_moveC rfl rfl rfl) rfl rfl ?_
  refine M0 (Qt.grdF rfl rfl rfl .stop (fun hgrd => q_fldp rfl rfl rfl rfl (by decide))) rfl rfl ?_
  refine M0 (Qt.grdF rfl rfl rfl (.hit .stop) (fun hgrd => q_ld1 rfl rfl rfl rfl rfl)) rfl rfl ?_
  refine M0 (Qt.grdF rfl rfl rfl (.hit (.hit .stop)) (fun hgrd => q_call0 rfl rfl (S_in x.Delay 0 5) rfl)) rfl rfl ?_
  refine M0 (Qt.grdF rfl rfl rfl (.hit (.hit (.hit .stop))) (fun hgrd => q_not rfl rfl rfl)) rfl rfl ?_; refine M0 (q_or rfl rfl rfl rfl) rfl rfl ?_
  refine M0 (q_moveC rfl rfl rfl) rfl rfl ?_; refine M0 (Qt.grdF rfl rfl rfl .stop (fun hgrd => q_fldp rfl rfl rfl rfl (by decide))) rfl rfl ?_
  refine M0 (Qt.grdF rfl rfl rfl (.hit .stop) (fun hgrd => q_ld1 rfl rfl rfl rfl rfl)) rfl rfl ?_
  refine M0 (Qt.grdF rfl rfl rfl (.hit (.hit .stop)) (fun hgrd => q_call0 rfl rfl (S_in x.Ahead 1 8) rfl)) rfl rfl ?_
  refine M0 (Qt.grdF rfl rfl rfl (.hit (.hit (.hit .stop))) (fun hgrd => q_not rfl rfl rfl)) rfl rfl ?_; refine M0 (q_or rfl rfl rfl rfl) rfl rfl ?_
  refine M0 (q_moveC rfl rfl rfl) rfl rfl ?_; refine M0 (Qt.grdF rfl rfl rfl .stop (fun hgrd => q_fldp rfl rfl rfl rfl (by decide))) rfl rfl ?_
  refine M0 (Qt.grdF rfl rfl rfl (.hit .stop) (fun hgrd => q_ld1 rfl rfl rfl rfl rfl)) rfl rfl ?_
  refine M0 (Qt.grdF rfl rfl rfl (.hit (.hit .stop)) (fun hgrd => q_call0 rfl rfl (S_in x.Seed 0 65535) rfl)) rfl rfl ?_
  refine M0 (Qt.grdF rfl rfl rfl (.hit (.hit (.hit .stop))) (fun hgrd => q_not rfl rfl rfl)) rfl rfl ?_; refine M0 (q_or rfl rfl rfl rfl) rfl rfl ?_
  refine M0 (q_moveC rfl rfl rfl) rfl rfl ?_; refine M0 (Qt.grdF rfl rfl rfl .stop (fun hgrd => q_fldp rfl rfl rfl rfl (by decide))) rfl rfl ?_
  refine M0 (Qt.grdF rfl rfl rfl (.hit .stop) (fun hgrd => q_ld1 rfl rfl rfl rfl rfl)) rfl rfl ?_
  refine M0 (Qt.grdF rfl rfl rfl (.hit (.hit .stop)) (fun hgrd => q_call0 rfl rfl (S_in x.Rolls 0 1000000) rfl)) rfl rfl ?_
  refine M0 (Qt.grdF rfl rfl rfl (.hit (.hit (.hit .stop))) (fun hgrd => q_not rfl rfl rfl)) rfl rfl ?_; refine M0 (q_or rfl rfl rfl rfl) rfl rfl ?_
  refine M0 (q_moveC rfl rfl rfl) rfl rfl ?_; refine M0 (Qt.grdF rfl rfl rfl .stop (fun hgrd => q_fldp rfl rfl rfl rfl (by decide))) rfl rfl ?_
  refine M0 (Qt.grdF rfl rfl rfl (.hit .stop) (fun hgrd => q_ld1 rfl rfl rfl rfl rfl)) rfl rfl ?_
  refine M0 (Qt.grdF rfl rfl rfl (.hit (.hit .stop)) (fun hgrd => q_call0 rfl rfl (S_in x.Again 0 1000000) rfl)) rfl rfl ?_
  refine M0 (Qt.grdF rfl rfl rfl (.hit (.hit (.hit .stop))) (fun hgrd => q_not rfl rfl rfl)) rfl rfl ?_; refine M0 (q_or rfl rfl rfl rfl) rfl rfl ?_
  refine M0 (q_moveC rfl rfl rfl) rfl rfl ?_; refine M0 (Qt.grdF rfl rfl rfl .stop (fun hgrd => q_moveC rfl rfl rfl)) rfl rfl ?_
  refine M0 (Qt.grdF rfl rfl rfl (.hit .stop) (fun hgrd => q_fldp rfl rfl rfl rfl (by decide))) rfl rfl ?_
  refine M0 (Qt.grdF rfl rfl rfl (.hit (.hit .stop)) (fun hgrd => q_ld1 rfl rfl rfl rfl rfl)) rfl rfl ?_
  refine M0 (Qt.grdF rfl rfl rfl (.hit (.hit (.hit .stop))) (fun hgrd => q_call0 rfl rfl (S_in (x.Now.Tick - x.Base.Tick) 0 x.Ahead) rfl)) rfl rfl ?_
  refine M0 (Qt.grdF rfl rfl rfl (.hit (.hit (.hit (.hit .stop)))) (fun hgrd => q_not rfl rfl rfl)) rfl rfl ?_; refine M0 (q_or rfl rfl rfl rfl) rfl rfl ?_
  refine M0 (q_moveC rfl rfl rfl) rfl rfl ?_; refine M0 (Qt.grdF rfl rfl rfl .stop (fun hgrd => q_fldp rfl rfl rfl rfl (by decide))) rfl rfl ?_
  refine M0 (Qt.grdF rfl rfl rfl (.hit .stop) (fun hgrd => q_ld1 rfl rfl rfl rfl rfl)) rfl rfl ?_
  refine M0 (Qt.grdF rfl rfl rfl (.hit (.hit .stop)) (fun hgrd => q_len rfl rfl rfl)) rfl rfl ?_
  refine M0 (Qt.grdF rfl rfl rfl (.hit (.hit (.hit .stop))) (fun hgrd => q_moveC rfl rfl rfl)) rfl rfl ?_
  refine M0 (Qt.grdF rfl rfl rfl (.hit (.hit (.hit (.hit .stop)))) (fun hgrd => q_neq rfl rfl rfl rfl)) rfl rfl ?_; refine M0 (q_or rfl rfl rfl rfl) rfl rfl ?_
  refine M0 (q_moveC rfl rfl rfl) rfl rfl ?_; refine M0 (Qt.grdF rfl rfl rfl .stop (fun hgrd => q_fldp rfl rfl rfl rfl (by decide))) rfl rfl ?_
  refine M0 (Qt.grdF rfl rfl rfl (.hit .stop) (fun hgrd => q_ld1 rfl rfl rfl rfl rfl)) rfl rfl ?_
  refine M0 (Qt.grdF rfl rfl rfl (.hit (.hit .stop)) (fun hgrd => q_len rfl rfl rfl)) rfl rfl ?_
  refine M0 (Qt.grdF rfl rfl rfl (.hit (.hit (.hit .stop))) (fun hgrd => q_moveC rfl rfl rfl)) rfl rfl ?_
  refine M0 (Qt.grdF rfl rfl rfl (.hit (.hit (.hit (.hit .stop)))) (fun hgrd => q_neq rfl rfl rfl rfl)) rfl rfl ?_; refine M0 (q_or rfl rfl rfl rfl) rfl rfl ?_; refine L_nil ?_
  refine T_n ?_
  refine A_cond rfl (fun h2 => ?_) (fun h2 => ?_)
  · rw [hlt, hlu, hls] at h2
    rw [peer_F (noS2 h2)]
    refine A_seq ?_; refine A_region ?_; refine M0 (q_assignC rfl rfl rfl) rfl rfl ?_; refine L_nil ?_; refine T_n ?_; refine A_ret ?_; refine T_r ?_; refine F_r ?_
    exact E_tmp rfl rfl (W_end [] (by decide) rfl rfl rfl)
  rw [hlt, hlu, hls] at h2
  simp only [Bool.or_eq_false_iff, Bool.not_eq_false', decide_eq_false_iff_not, Classical.not_not, inR_iff] at h2
  obtain ⟨⟨⟨⟨⟨⟨⟨⟨q8, q9⟩, q10⟩, q11⟩, q12⟩, q13⟩, q14⟩, q15⟩, q16⟩ := h2
  refine AWP.pre (st' := (⟨_, [(1, .o (.c (.ptr 0 0))), (3, I (els x.Tracks).length), (4, I (x.Now.Tick - x.Base.Tick))], [.box ((Enc.e x).map (V1.rd []))]⟩ : St)) ?_ (W_go [0] (by decide) rfl (rfl) (.cons rfl (.cons rfl (.cons rfl (.nil)))))
  refine A_skip ?_; refine T_n ?_; refine A_seq ?_; refine A_seq ?_; refine A_region ?_; refine M0 (q_assignC rfl rfl rfl) rfl rfl ?_; refine L_nil ?_; refine T_n ?_; refine A_block ?_
  refine A_loop (fun m st => ∃ k : Nat, k + m = x.Used.length ∧ ((x.Used.take k).all (fun row => rowOk row x.Tracks.length) = true ∧ (∀ i (h : i < x.Saves.length), i < k → x.Saves[i].Tick = x.Base.Tick + i)) ∧ st = (fun k : Nat => (⟨_, [(1, .o (.c (.ptr 0 0))), (3, I (els x.Tracks).length), (4, I (x.Now.Tick - x.Base.Tick)), (5, I k)], [.box ((Enc.e x).map (V1.rd []))]⟩ : St)) k) (x.Used.length) ⟨(fun k : Nat => (⟨_, [(1, .o (.c (.ptr 0 0))), (3, I (els x.Tracks).length), (4, I (x.Now.Tick - x.Base.Tick)), (5, I k)], [.box ((Enc.e x).map (V1.rd []))]⟩ : St)) 0, W_go [0] (by decide) rfl (rfl) (.cons rfl (.cons rfl (.cons rfl (.cons rfl (.nil))))), 0, by omega, ⟨by simp, fun i _ hi => absurd hi (Nat.not_lt_zero _)⟩, rfl⟩ ?_
  rintro m_A _ ⟨k, hk_A, hp_A, rfl⟩
  obtain ⟨hpa, hpb⟩ := hp_A
  refine A_seq ?_; refine A_seq ?_; refine A_region ?_; refine M0 (q_moveC rfl rfl rfl) rfl rfl ?_; refine M0 (q_moveC rfl rfl rfl) rfl rfl ?_; refine M0 (q_lss rfl rfl rfl rfl) rfl rfl ?_
  refine L_nil ?_; refine T_n ?_
  refine A_cond rfl (fun h => ?_) (fun h => ?_)
  · have h3 : k < x.Used.length := by have := of_decide_eq_true h; omega
    have h4 : k < x.Saves.length := by omega
    have hat := els_at h3
    have hat2 := els_at h4
    have hc := S_rowOk x.Used[k] (els x.Tracks).length (gUs.2 _ (List.getElem_mem h3))
    rw [hlt] at hc
    cases ho : rowOk x.Used[k] x.Tracks.length with
    | false =>
      rw [ho, ← hlt] at hc
      rw [peer_F (fun hp => by have := hp.2.2.2.2.2.1.1; rw [all_no h3 ho] at this; cases this)]
      refine A_skip ?_; refine T_n ?_; refine A_seq ?_; refine A_block ?_; refine A_seq ?_
      refine A_draw [[], [0], [], [0, 1, 2], [0, 1, 2, 3], [], [0, 1, 2, 3, 4, 5], [0, 1, 2, 3, 4, 5, 6], [0, 1, 2, 3, 4, 5, 6, 7], [0, 1, 2, 3, 4, 5, 6, 7, 8], [0, 1, 2, 3, 4, 5, 6, 7, 8, 9], [0, 1, 2, 3, 4, 5, 6, 7, 8], [0, 1, 2, 3, 4, 5, 6, 7, 8, 9, 10, 11], [0, 1, 2, 3, 4, 5, 6, 7, 8, 9, 10, 11, 12], [0, 1, 2, 3, 4, 5, 6, 7, 8, 9, 10, 11, 12, 13], [0, 1, 2, 3, 4, 5, 6, 7, 8], [0, 1, 2, 3, 4, 5, 6, 7, 8, 15], [0, 1, 2, 3, 4, 5, 6, 7, 8, 15, 16], [0, 1, 2, 3, 4, 5, 6, 7, 8], [0, 1, 2, 3, 4, 5, 6, 7, 8, 15, 16, 17, 18], [0, 1, 2, 3, 4, 5, 6, 7, 8, 9, 10, 11, 12, 13, 14, 15, 16, 17, 18, 19], [0, 1, 2, 3, 4, 5, 6, 7, 8, 9, 10, 11, 12, 13, 14, 15, 16, 17, 18, 19, 20]] [[], [127], [], [127, 128, 129], [127, 128, 129, 130], [], [127, 128, 129, 130, 131, 132], [127, 128, 129, 130, 131, 132, 133], [127, 128, 129, 130, 131, 132, 133, 134], [127, 128, 129, 130, 131, 132, 133, 134, 135], [127, 128, 129, 130, 131, 132, 133, 134, 135, 136], [127, 128, 129, 130, 131, 132, 133, 134, 135], [127, 128, 129, 130, 131, 132, 133, 134, 135, 136, 137, 138], [127, 128, 129, 130, 131, 132, 133, 134, 135, 136, 137, 138, 139], [127, 128, 129, 130, 131, 132, 133, 134, 135, 136, 137, 138, 139, 140], [127, 128, 129, 130, 131, 132, 133, 134, 135], [127, 128, 129, 130, 131, 132, 133, 134, 135, 142], [127, 128, 129, 130, 131, 132, 133, 134, 135, 142, 143], [127, 128, 129, 130, 131, 132, 133, 134, 135], [127, 128, 129, 130, 131, 132, 133, 134, 135, 142, 143, 144, 145], [127, 128, 129, 130, 131, 132, 133, 134, 135, 136, 137, 138, 139, 140, 141, 142, 143, 144, 145, 146], [127, 128, 129, 130, 131, 132, 133, 134, 135, 136, 137, 138, 139, 140, 141, 142, 143, 144, 145, 146, 147]] [[129, 132], [129, 132], [127, 128, 132], [132], [132], [127, 128, 129, 130, 131], [], [], [], [138, 142, 143, 144, 145, 146], [138, 142, 143, 144, 145, 146], [136, 137, 142, 143, 144, 145, 146], [142, 143, 144, 145, 146], [142, 143, 144, 145, 146], [142, 143, 144, 145, 146], [136, 137, 138, 139, 140, 141, 145], [136, 137, 138, 139, 140, 141, 145], [136, 137, 138, 139, 140, 141, 145], [136, 137, 138, 139, 140, 141, 142, 143, 144], [136, 137, 138, 139, 140, 141], [], []] rfl ?_
      refine DR.step (q_fldp rfl rfl rfl rfl (by decide)) rfl rfl ?_; refine DR.step (q_ld1 rfl rfl rfl rfl rfl) rfl rfl ?_; refine DR.step (q_moveC rfl rfl rfl) rfl rfl ?_
      refine DR.step (q_at rfl rfl rfl rfl (by omega) (by assumption) rfl) rfl rfl ?_; refine DR.step (q_lr1 rfl rfl rfl rfl) rfl rfl ?_; refine DR.step (q_moveC rfl rfl rfl) rfl rfl ?_
      refine DR.step (q_call0 rfl rfl (hc) rfl) rfl rfl ?_; refine DR.step (q_not rfl rfl rfl) rfl rfl ?_; refine DR.step (q_moveC rfl rfl rfl) rfl rfl ?_
      refine DR.step (Qt.no rfl rfl rfl rfl) rfl rfl ?_; refine DR.step (Qt.no rfl rfl rfl rfl) rfl rfl ?_; refine DR.step (Qt.no rfl rfl rfl rfl) rfl rfl ?_
      refine DR.step (Qt.no rfl rfl rfl rfl) rfl rfl ?_; refine DR.step (Qt.no rfl rfl rfl rfl) rfl rfl ?_; refine DR.step (Qt.no rfl rfl rfl rfl) rfl rfl ?_
      refine DR.step (Qt.no rfl rfl rfl rfl) rfl rfl ?_; refine DR.step (Qt.no rfl rfl rfl rfl) rfl rfl ?_; refine DR.step (Qt.no rfl rfl rfl rfl) rfl rfl ?_
      refine DR.step (Qt.no rfl rfl rfl rfl) rfl rfl ?_; refine DR.step (Qt.no rfl rfl rfl rfl) rfl rfl ?_; refine DR.step (Qt.no rfl rfl rfl rfl) rfl rfl ?_
      refine DR.step (q_pickT rfl rfl rfl rfl) rfl rfl ?_; refine DR.stop (by kernel_rfl) (by kernel_rfl) ?_
      refine L_nil ?_; refine T_n ?_; refine A_ifT rfl ?_; refine A_seq ?_; refine A_region ?_; refine M0 (q_assignC rfl rfl rfl) rfl rfl ?_; refine L_nil ?_; refine T_n ?_; refine A_ret ?_; refine B_r ?_
      refine T_r ?_; refine T_r ?_; refine B_r ?_; refine T_r ?_; refine F_r ?_
      exact E_tmp rfl rfl (W_end [] (by decide) rfl rfl rfl)
    | true =>
      rw [ho, ← hlt] at hc
      by_cases hs : x.Saves[k].Tick = x.Base.Tick + k
      · have hb : decide (x.Saves[k].Tick ≠ x.Base.Tick + k) = false := decide_eq_false (fun h => h hs)
        refine A_skip ?_; refine T_n ?_; refine A_seq ?_; refine A_block ?_; refine A_seq ?_
        refine A_draw [[], [0], [], [0, 1, 2], [0, 1, 2, 3], [], [0, 1, 2, 3, 4, 5], [0, 1, 2, 3, 4, 5, 6], [0, 1, 2, 3, 4, 5, 6, 7], [0, 1, 2, 3, 4, 5, 6, 7, 8], [0, 1, 2, 3, 4, 5, 6, 7, 8, 9], [0, 1, 2, 3, 4, 5, 6, 7, 8], [0, 1, 2, 3, 4, 5, 6, 7, 8, 9, 10, 11], [0, 1, 2, 3, 4, 5, 6, 7, 8, 9, 10, 11, 12], [0, 1, 2, 3, 4, 5, 6, 7, 8, 9, 10, 11, 12, 13], [0, 1, 2, 3, 4, 5, 6, 7, 8], [0, 1, 2, 3, 4, 5, 6, 7, 8, 15], [0, 1, 2, 3, 4, 5, 6, 7, 8, 15, 16], [0, 1, 2, 3, 4, 5, 6, 7, 8], [0, 1, 2, 3, 4, 5, 6, 7, 8, 15, 16, 17, 18], [0, 1, 2, 3, 4, 5, 6, 7, 8, 9, 10, 11, 12, 13, 14, 15, 16, 17, 18, 19], [0, 1, 2, 3, 4, 5, 6, 7, 8, 9, 10, 11, 12, 13, 14, 15, 16, 17, 18, 19, 20]] [[], [127], [], [127, 128, 129], [127, 128, 129, 130], [], [127, 128, 129, 130, 131, 132], [127, 128, 129, 130, 131, 132, 133], [127, 128, 129, 130, 131, 132, 133, 134], [127, 128, 129, 130, 131, 132, 133, 134, 135], [127, 128, 129, 130, 131, 132, 133, 134, 135, 136], [127, 128, 129, 130, 131, 132, 133, 134, 135], [127, 128, 129, 130, 131, 132, 133, 134, 135, 136, 137, 138], [127, 128, 129, 130, 131, 132, 133, 134, 135, 136, 137, 138, 139], [127, 128, 129, 130, 131, 132, 133, 134, 135, 136, 137, 138, 139, 140], [127, 128, 129, 130, 131, 132, 133, 134, 135], [127, 128, 129, 130, 131, 132, 133, 134, 135, 142], [127, 128, 129, 130, 131, 132, 133, 134, 135, 142, 143], [127, 128, 129, 130, 131, 132, 133, 134, 135], [127, 128, 129, 130, 131, 132, 133, 134, 135, 142, 143, 144, 145], [127, 128, 129, 130, 131, 132, 133, 134, 135, 136, 137, 138, 139, 140, 141, 142, 143, 144, 145, 146], [127, 128, 129, 130, 131, 132, 133, 134, 135, 136, 137, 138, 139, 140, 141, 142, 143, 144, 145, 146, 147]] [[129, 132], [129, 132], [127, 128, 132], [132], [132], [127, 128, 129, 130, 131], [], [], [], [138, 142, 143, 144, 145, 146], [138, 142, 143, 144, 145, 146], [136, 137, 142, 143, 144, 145, 146], [142, 143, 144, 145, 146], [142, 143, 144, 145, 146], [142, 143, 144, 145, 146], [136, 137, 138, 139, 140, 141, 145], [136, 137, 138, 139, 140, 141, 145], [136, 137, 138, 139, 140, 141, 145], [136, 137, 138, 139, 140, 141, 142, 143, 144], [136, 137, 138, 139, 140, 141], [], []] rfl ?_
        refine DR.step (q_fldp rfl rfl rfl rfl (by decide)) rfl rfl ?_; refine DR.step (q_ld1 rfl rfl rfl rfl rfl) rfl rfl ?_; refine DR.step (q_moveC rfl rfl rfl) rfl rfl ?_
        refine DR.step (q_at rfl rfl rfl rfl (by omega) (by assumption) rfl) rfl rfl ?_; refine DR.step (q_lr1 rfl rfl rfl rfl) rfl rfl ?_; refine DR.step (q_moveC rfl rfl rfl) rfl rfl ?_
        refine DR.step (q_call0 rfl rfl (hc) rfl) rfl rfl ?_; refine DR.step (q_not rfl rfl rfl) rfl rfl ?_; refine DR.step (q_moveC rfl rfl rfl) rfl rfl ?_
        refine DR.step (Qt.yes rfl rfl rfl (q_fldp rfl rfl rfl rfl (by decide))) rfl rfl ?_; refine DR.step (Qt.yes rfl rfl rfl (q_ld1 rfl rfl rfl rfl rfl)) rfl rfl ?_
        refine DR.step (Qt.yes rfl rfl rfl (q_moveC rfl rfl rfl)) rfl rfl ?_; refine DR.step (Qt.yes rfl rfl rfl (q_at rfl rfl rfl rfl (by omega) (by assumption) rfl)) rfl rfl ?_
        refine DR.step (Qt.yes rfl rfl rfl (q_fldr rfl rfl rfl rfl (by decide))) rfl rfl ?_; refine DR.step (Qt.yes rfl rfl rfl (q_lr1 rfl rfl rfl rfl)) rfl rfl ?_
        refine DR.step (Qt.yes rfl rfl rfl (q_fldp rfl rfl rfl rfl (by decide))) rfl rfl ?_; refine DR.step (Qt.yes rfl rfl rfl (q_fldp rfl rfl rfl rfl (by decide))) rfl rfl ?_
        refine DR.step (Qt.yes rfl rfl rfl (q_ld1 rfl rfl rfl rfl rfl)) rfl rfl ?_; refine DR.step (Qt.yes rfl rfl rfl (q_moveC rfl rfl rfl)) rfl rfl ?_
        refine DR.step (Qt.yes rfl rfl rfl (q_add rfl rfl rfl rfl (by omega))) rfl rfl ?_; refine DR.step (Qt.yes rfl rfl rfl (q_neqK rfl rfl rfl rfl (by assumption))) rfl rfl ?_
        refine DR.step (q_pickF rfl rfl rfl rfl) rfl rfl ?_; refine DR.stop (by kernel_rfl) (by kernel_rfl) ?_
        refine L_nil ?_; refine T_n ?_; refine A_ifF rfl ?_; refine A_skip ?_; refine B_n ?_; refine T_n ?_; refine A_region ?_; refine M0 (q_moveC rfl rfl rfl) rfl rfl ?_
        refine M0 (q_add rfl rfl rfl rfl (by omega)) rfl rfl ?_; refine M0 (q_assignC rfl rfl rfl) rfl rfl ?_; refine L_nil ?_; refine T_n ?_
        exact ⟨x.Used.length - (k + 1), by omega, (fun k : Nat => (⟨_, [(1, .o (.c (.ptr 0 0))), (3, I (els x.Tracks).length), (4, I (x.Now.Tick - x.Base.Tick)), (5, I k)], [.box ((Enc.e x).map (V1.rd []))]⟩ : St)) (k + 1), W_go [0] (by decide) rfl (rfl) (.cons rfl (.cons rfl (.cons rfl (.cons rfl (.nil))))), k + 1, by omega, ⟨all_next hpa h3 ho, fun i hi hij => by by_cases e : i = k; subst e; exact hs; exact hpb i hi (by omega)⟩, rfl⟩
      · have hb : decide (x.Saves[k].Tick ≠ x.Base.Tick + k) = true := decide_eq_true hs
        rw [peer_F (fun hp => hs (hp.2.2.2.2.2.1.2 k h4))]
        refine A_skip ?_; refine T_n ?_; refine A_seq ?_; refine A_block ?_; refine A_seq ?_
        refine A_draw [[], [0], [], [0, 1, 2], [0, 1, 2, 3], [], [0, 1, 2, 3, 4, 5], [0, 1, 2, 3, 4, 5, 6], [0, 1, 2, 3, 4, 5, 6, 7], [0, 1, 2, 3, 4, 5, 6, 7, 8], [0, 1, 2, 3, 4, 5, 6, 7, 8, 9], [0, 1, 2, 3, 4, 5, 6, 7, 8], [0, 1, 2, 3, 4, 5, 6, 7, 8, 9, 10, 11], [0, 1, 2, 3, 4, 5, 6, 7, 8, 9, 10, 11, 12], [0, 1, 2, 3, 4, 5, 6, 7, 8, 9, 10, 11, 12, 13], [0, 1, 2, 3, 4, 5, 6, 7, 8], [0, 1, 2, 3, 4, 5, 6, 7, 8, 15], [0, 1, 2, 3, 4, 5, 6, 7, 8, 15, 16], [0, 1, 2, 3, 4, 5, 6, 7, 8], [0, 1, 2, 3, 4, 5, 6, 7, 8, 15, 16, 17, 18], [0, 1, 2, 3, 4, 5, 6, 7, 8, 9, 10, 11, 12, 13, 14, 15, 16, 17, 18, 19], [0, 1, 2, 3, 4, 5, 6, 7, 8, 9, 10, 11, 12, 13, 14, 15, 16, 17, 18, 19, 20]] [[], [127], [], [127, 128, 129], [127, 128, 129, 130], [], [127, 128, 129, 130, 131, 132], [127, 128, 129, 130, 131, 132, 133], [127, 128, 129, 130, 131, 132, 133, 134], [127, 128, 129, 130, 131, 132, 133, 134, 135], [127, 128, 129, 130, 131, 132, 133, 134, 135, 136], [127, 128, 129, 130, 131, 132, 133, 134, 135], [127, 128, 129, 130, 131, 132, 133, 134, 135, 136, 137, 138], [127, 128, 129, 130, 131, 132, 133, 134, 135, 136, 137, 138, 139], [127, 128, 129, 130, 131, 132, 133, 134, 135, 136, 137, 138, 139, 140], [127, 128, 129, 130, 131, 132, 133, 134, 135], [127, 128, 129, 130, 131, 132, 133, 134, 135, 142], [127, 128, 129, 130, 131, 132, 133, 134, 135, 142, 143], [127, 128, 129, 130, 131, 132, 133, 134, 135], [127, 128, 129, 130, 131, 132, 133, 134, 135, 142, 143, 144, 145], [127, 128, 129, 130, 131, 132, 133, 134, 135, 136, 137, 138, 139, 140, 141, 142, 143, 144, 145, 146], [127, 128, 129, 130, 131, 132, 133, 134, 135, 136, 137, 138, 139, 140, 141, 142, 143, 144, 145, 146, 147]] [[129, 132], [129, 132], [127, 128, 132], [132], [132], [127, 128, 129, 130, 131], [], [], [], [138, 142, 143, 144, 145, 146], [138, 142, 143, 144, 145, 146], [136, 137, 142, 143, 144, 145, 146], [142, 143, 144, 145, 146], [142, 143, 144, 145, 146], [142, 143, 144, 145, 146], [136, 137, 138, 139, 140, 141, 145], [136, 137, 138, 139, 140, 141, 145], [136, 137, 138, 139, 140, 141, 145], [136, 137, 138, 139, 140, 141, 142, 143, 144], [136, 137, 138, 139, 140, 141], [], []] rfl ?_
        refine DR.step (q_fldp rfl rfl rfl rfl (by decide)) rfl rfl ?_; refine DR.step (q_ld1 rfl rfl rfl rfl rfl) rfl rfl ?_; refine DR.step (q_moveC rfl rfl rfl) rfl rfl ?_
        refine DR.step (q_at rfl rfl rfl rfl (by omega) (by assumption) rfl) rfl rfl ?_; refine DR.step (q_lr1 rfl rfl rfl rfl) rfl rfl ?_; refine DR.step (q_moveC rfl rfl rfl) rfl rfl ?_
        refine DR.step (q_call0 rfl rfl (hc) rfl) rfl rfl ?_; refine DR.step (q_not rfl rfl rfl) rfl rfl ?_; refine DR.step (q_moveC rfl rfl rfl) rfl rfl ?_
        refine DR.step (Qt.yes rfl rfl rfl (q_fldp rfl rfl rfl rfl (by decide))) rfl rfl ?_; refine DR.step (Qt.yes rfl rfl rfl (q_ld1 rfl rfl rfl rfl rfl)) rfl rfl ?_
        refine DR.step (Qt.yes rfl rfl rfl (q_moveC rfl rfl rfl)) rfl rfl ?_; refine DR.step (Qt.yes rfl rfl rfl (q_at rfl rfl rfl rfl (by omega) (by assumption) rfl)) rfl rfl ?_
        refine DR.step (Qt.yes rfl rfl rfl (q_fldr rfl rfl rfl rfl (by decide))) rfl rfl ?_; refine DR.step (Qt.yes rfl rfl rfl (q_lr1 rfl rfl rfl rfl)) rfl rfl ?_
        refine DR.step (Qt.yes rfl rfl rfl (q_fldp rfl rfl rfl rfl (by decide))) rfl rfl ?_; refine DR.step (Qt.yes rfl rfl rfl (q_fldp rfl rfl rfl rfl (by decide))) rfl rfl ?_
        refine DR.step (Qt.yes rfl rfl rfl (q_ld1 rfl rfl rfl rfl rfl)) rfl rfl ?_; refine DR.step (Qt.yes rfl rfl rfl (q_moveC rfl rfl rfl)) rfl rfl ?_
        refine DR.step (Qt.yes rfl rfl rfl (q_add rfl rfl rfl rfl (by omega))) rfl rfl ?_; refine DR.step (Qt.yes rfl rfl rfl (q_neqK rfl rfl rfl rfl (by assumption))) rfl rfl ?_
        refine DR.step (q_pickF rfl rfl rfl rfl) rfl rfl ?_; refine DR.stop (by kernel_rfl) (by kernel_rfl) ?_
        refine L_nil ?_; refine T_n ?_; refine A_ifT rfl ?_; refine A_seq ?_; refine A_region ?_; refine M0 (q_assignC rfl rfl rfl) rfl rfl ?_; refine L_nil ?_; refine T_n ?_; refine A_ret ?_; refine B_r ?_
        refine T_r ?_; refine T_r ?_; refine B_r ?_; refine T_r ?_; refine F_r ?_
        exact E_tmp rfl rfl (W_end [] (by decide) rfl rfl rfl)
  have h3 : ¬ k < x.Used.length := by have := of_decide_eq_false h; omega
  have hall := all_end hpa (by omega)
  have hme : x.Me.toNat < x.Tracks.length := by omega
  have hat := at_nat (xs := x.Tracks) hme
  have hti := els_len x.Tracks[x.Me.toNat].Inputs
  have hla := lenAt_is hme
  rw [← fin_eq ⟨q1, q2, q3, q4⟩ ⟨by omega, by omega, q7⟩ ⟨q8, q9, q10⟩ ⟨q11, q12, q13⟩ ⟨q14, q15, q16⟩ ⟨hall, fun i hi => hpb i hi (by omega)⟩, ← hlm]
  by_cases k1 : x.Base.Tick ≤ (knownTicks x.Tracks : Nat)
  · have hb1 : decide (x.Base.Tick ≤ ((knownTicks x.Tracks : Nat) : Int)) = true := decide_eq_true k1
    by_cases k2 : x.Now.Tick ≤ (lenAt x.Tracks x.Me.toNat : Nat)
    · have hb2 : decide (x.Now.Tick ≤ ((els x.Tracks[x.Me.toNat].Inputs).length : Int)) = true := decide_eq_true (by omega)
      rw [hb1, decide_eq_true k2]
      refine A_exit ?_; refine T_x ?_; refine T_x ?_; refine B_xs ?_; refine T_n ?_; refine A_seq ?_
      refine A_draw [[], [0], [0, 1], [], [3], [3, 4], [0, 1, 2, 3, 4, 5], [0, 1, 2, 3, 4, 5, 6], [0, 1, 2, 3, 4, 5, 6, 7], [0, 1, 2, 3, 4, 5, 6, 7, 8], [0, 1, 2, 3, 4, 5, 6, 7], [0, 1, 2, 3, 4, 5, 6, 7, 10], [0, 1, 2, 3, 4, 5, 6, 7, 8, 9, 10, 11], [0, 1, 2, 3, 4, 5, 6, 7, 8, 9, 10, 11, 12], [0, 1, 2, 3, 4, 5, 6, 7, 8, 9, 10, 11, 12, 13], [0, 1, 2, 3, 4, 5, 6, 7, 8, 9, 10, 11, 12, 13, 14], [0, 1, 2, 3, 4, 5, 6, 7], [0, 1, 2, 3, 4, 5, 6, 7, 16], [0, 1, 2, 3, 4, 5, 6, 7, 16, 17], [0, 1, 2, 3, 4, 5, 6, 7, 8, 9, 10, 11, 12, 13, 14, 15, 16, 17, 18], [0, 1, 2, 3, 4, 5, 6, 7, 8, 9, 10, 11, 12, 13, 14, 15, 16, 17, 18, 19], [0, 1, 2, 3, 4, 5, 6, 7, 8, 9, 10, 11, 12, 13, 14, 15, 16, 17, 18, 19, 20], [0, 1, 2, 3, 4, 5, 6, 7, 8, 9, 10, 11, 12, 13, 14, 15, 16, 17, 18, 19, 20, 21], [0, 1, 2, 3, 4, 5, 6, 7, 8, 9, 10, 11, 12, 13, 14, 15, 16, 17, 18, 19, 20, 21, 22], [0, 1, 2, 3, 4, 5, 6, 7, 8, 9, 10, 11, 12, 13, 14, 15, 16, 17, 18, 19, 20, 21, 22, 23], [0, 1, 2, 3, 4, 5, 6, 7, 8, 9, 10, 11, 12, 13, 14, 15, 16, 17, 18, 19, 20, 21], [0, 1, 2, 3, 4, 5, 6, 7, 8, 9, 10, 11, 12, 13, 14, 15, 16, 17, 18, 19, 20, 21, 25], [0, 1, 2, 3, 4, 5, 6, 7, 8, 9, 10, 11, 12, 13, 14, 15, 16, 17, 18, 19, 20, 21, 25, 26], [0, 1, 2, 3, 4, 5, 6, 7, 8, 9, 10, 11, 12, 13, 14, 15, 16, 17, 18, 19, 20, 21, 25, 26, 27], [0, 1, 2, 3, 4, 5, 6, 7, 8, 9, 10, 11, 12, 13, 14, 15, 16, 17, 18, 19, 20, 21, 22, 23, 24, 25, 26, 27, 28], [0, 1, 2, 3, 4, 5, 6, 7, 8, 9, 10, 11, 12, 13, 14, 15, 16, 17, 18, 19, 20, 21, 22, 23, 24, 25, 26, 27, 28, 29], [0, 1, 2, 3, 4, 5, 6, 7, 8, 9, 10, 11, 12, 13, 14, 15, 16, 17, 18, 19, 20, 21, 22, 23, 24, 25, 26, 27, 28, 29, 30]] [[], [149], [149, 150], [], [152], [152, 153], [149, 150, 151, 152, 153, 154], [149, 150, 151, 152, 153, 154, 155], [149, 150, 151, 152, 153, 154, 155, 156], [149, 150, 151, 152, 153, 154, 155, 156, 157], [149, 150, 151, 152, 153, 154, 155, 156], [149, 150, 151, 152, 153, 154, 155, 156, 159], [149, 150, 151, 152, 153, 154, 155, 156, 157, 158, 159, 160], [149, 150, 151, 152, 153, 154, 155, 156, 157, 158, 159, 160, 161], [149, 150, 151, 152, 153, 154, 155, 156, 157, 158, 159, 160, 161, 162], [149, 150, 151, 152, 153, 154, 155, 156, 157, 158, 159, 160, 161, 162, 163], [149, 150, 151, 152, 153, 154, 155, 156], [149, 150, 151, 152, 153, 154, 155, 156, 165], [149, 150, 151, 152, 153, 154, 155, 156, 165, 166], [149, 150, 151, 152, 153, 154, 155, 156, 157, 158, 159, 160, 161, 162, 163, 164, 165, 166, 167], [149, 150, 151, 152, 153, 154, 155, 156, 157, 158, 159, 160, 161, 162, 163, 164, 165, 166, 167, 168], [149, 150, 151, 152, 153, 154, 155, 156, 157, 158, 159, 160, 161, 162, 163, 164, 165, 166, 167, 168, 169], [149, 150, 151, 152, 153, 154, 155, 156, 157, 158, 159, 160, 161, 162, 163, 164, 165, 166, 167, 168, 169, 170], [149, 150, 151, 152, 153, 154, 155, 156, 157, 158, 159, 160, 161, 162, 163, 164, 165, 166, 167, 168, 169, 170, 171], [149, 150, 151, 152, 153, 154, 155, 156, 157, 158, 159, 160, 161, 162, 163, 164, 165, 166, 167, 168, 169, 170, 171, 172], [149, 150, 151, 152, 153, 154, 155, 156, 157, 158, 159, 160, 161, 162, 163, 164, 165, 166, 167, 168, 169, 170], [149, 150, 151, 152, 153, 154, 155, 156, 157, 158, 159, 160, 161, 162, 163, 164, 165, 166, 167, 168, 169, 170, 174], [149, 150, 151, 152, 153, 154, 155, 156, 157, 158, 159, 160, 161, 162, 163, 164, 165, 166, 167, 168, 169, 170, 174, 175], [149, 150, 151, 152, 153, 154, 155, 156, 157, 158, 159, 160, 161, 162, 163, 164, 165, 166, 167, 168, 169, 170, 174, 175, 176], [149, 150, 151, 152, 153, 154, 155, 156, 157, 158, 159, 160, 161, 162, 163, 164, 165, 166, 167, 168, 169, 170, 171, 172, 173, 174, 175, 176, 177], [149, 150, 151, 152, 153, 154, 155, 156, 157, 158, 159, 160, 161, 162, 163, 164, 165, 166, 167, 168, 169, 170, 171, 172, 173, 174, 175, 176, 177, 178], [149, 150, 151, 152, 153, 154, 155, 156, 157, 158, 159, 160, 161, 162, 163, 164, 165, 166, 167, 168, 169, 170, 171, 172, 173, 174, 175, 176, 177, 178, 179]] [[152, 153, 154], [152, 153, 154], [152, 153, 154], [149, 150, 151], [149, 150, 151], [149, 150, 151], [], [], [159, 160, 165, 166, 167], [159, 160, 165, 166, 167], [157, 158, 165, 166, 167], [157, 158, 165, 166, 167], [165, 166, 167], [165, 166, 167], [165, 166, 167], [165, 166, 167], [157, 158, 159, 160, 161, 162, 163, 164], [157, 158, 159, 160, 161, 162, 163, 164], [157, 158, 159, 160, 161, 162, 163, 164], [], [], [], [174, 175, 176, 177], [174, 175, 176, 177], [174, 175, 176, 177], [171, 172, 173], [171, 172, 173], [171, 172, 173], [171, 172, 173], [], [], []] rfl ?_
      refine DR.step (q_fldp rfl rfl rfl rfl (by decide)) rfl rfl ?_; refine DR.step (q_fldp rfl rfl rfl rfl (by decide)) rfl rfl ?_; refine DR.step (q_ld1 rfl rfl rfl rfl rfl) rfl rfl ?_
      refine DR.step (q_fldp rfl rfl rfl rfl (by decide)) rfl rfl ?_; refine DR.step (q_ld1 rfl rfl rfl rfl rfl) rfl rfl ?_; refine DR.step (q_call0 rfl rfl (c6) rfl) rfl rfl ?_
      refine DR.step (q_leqK rfl rfl rfl rfl (by assumption)) rfl rfl ?_; refine DR.step (q_moveC rfl rfl rfl) rfl rfl ?_
      refine DR.step (Qt.yes rfl rfl rfl (q_fldp rfl rfl rfl rfl (by decide))) rfl rfl ?_; refine DR.step (Qt.yes rfl rfl rfl (q_ld1 rfl rfl rfl rfl rfl)) rfl rfl ?_
      refine DR.step (Qt.yes rfl rfl rfl (q_fldp rfl rfl rfl rfl (by decide))) rfl rfl ?_; refine DR.step (Qt.yes rfl rfl rfl (q_ld1 rfl rfl rfl rfl rfl)) rfl rfl ?_
      refine DR.step (Qt.yes rfl rfl rfl (q_at rfl rfl rfl rfl (by omega) (by assumption) rfl)) rfl rfl ?_
      refine DR.step (Qt.yes rfl rfl rfl (q_fldr rfl rfl rfl rfl (by decide))) rfl rfl ?_; refine DR.step (Qt.yes rfl rfl rfl (q_lr1 rfl rfl rfl rfl)) rfl rfl ?_
      refine DR.step (Qt.yes rfl rfl rfl (q_len rfl rfl rfl)) rfl rfl ?_; refine DR.step (Qt.yes rfl rfl rfl (q_fldp rfl rfl rfl rfl (by decide))) rfl rfl ?_
      refine DR.step (Qt.yes rfl rfl rfl (q_fldp rfl rfl rfl rfl (by decide))) rfl rfl ?_; refine DR.step (Qt.yes rfl rfl rfl (q_ld1 rfl rfl rfl rfl rfl)) rfl rfl ?_
      refine DR.step (Qt.yes rfl rfl rfl (q_geqK rfl rfl rfl rfl (by assumption))) rfl rfl ?_; refine DR.step (q_pickT rfl rfl rfl rfl) rfl rfl ?_
      refine DR.step (q_moveC rfl rfl rfl) rfl rfl ?_; refine DR.step (Qt.yes rfl rfl rfl (q_fldp rfl rfl rfl rfl (by decide))) rfl rfl ?_
      refine DR.step (Qt.yes rfl rfl rfl (q_ld1 rfl rfl rfl rfl rfl)) rfl rfl ?_; refine DR.step (Qt.yes rfl rfl rfl (q_len rfl rfl rfl)) rfl rfl ?_
      refine DR.step (Qt.yes rfl rfl rfl (q_fldp rfl rfl rfl rfl (by decide))) rfl rfl ?_; refine DR.step (Qt.yes rfl rfl rfl (q_fldp rfl rfl rfl rfl (by decide))) rfl rfl ?_
      refine DR.step (Qt.yes rfl rfl rfl (q_ld1 rfl rfl rfl rfl rfl)) rfl rfl ?_; refine DR.step (Qt.yes rfl rfl rfl (q_add rfl rfl rfl rfl (by omega))) rfl rfl ?_
      refine DR.step (Qt.yes rfl rfl rfl (q_eql rfl rfl rfl rfl)) rfl rfl ?_; refine DR.step (q_pickT rfl rfl rfl rfl) rfl rfl ?_; refine DR.step (q_assignC rfl rfl rfl) rfl rfl ?_
      refine DR.stop (by kernel_rfl) (by kernel_rfl) ?_
      refine L_nil ?_; refine T_n ?_; refine A_ret ?_; refine F_r ?_
      exact E_tmp rfl rfl (W_end [] (by decide) rfl rfl rfl)
    · have hb2 : decide (x.Now.Tick ≤ ((els x.Tracks[x.Me.toNat].Inputs).length : Int)) = false := decide_eq_false (by omega)
      rw [hb1, decide_eq_false k2]
      refine A_exit ?_; refine T_x ?_; refine T_x ?_; refine B_xs ?_; refine T_n ?_; refine A_seq ?_
      refine A_draw [[], [0], [0, 1], [], [3], [3, 4], [0, 1, 2, 3, 4, 5], [0, 1, 2, 3, 4, 5, 6], [0, 1, 2, 3, 4, 5, 6, 7], [0, 1, 2, 3, 4, 5, 6, 7, 8], [0, 1, 2, 3, 4, 5, 6, 7], [0, 1, 2, 3, 4, 5, 6, 7, 10], [0, 1, 2, 3, 4, 5, 6, 7, 8, 9, 10, 11], [0, 1, 2, 3, 4, 5, 6, 7, 8, 9, 10, 11, 12], [0, 1, 2, 3, 4, 5, 6, 7, 8, 9, 10, 11, 12, 13], [0, 1, 2, 3, 4, 5, 6, 7, 8, 9, 10, 11, 12, 13, 14], [0, 1, 2, 3, 4, 5, 6, 7], [0, 1, 2, 3, 4, 5, 6, 7, 16], [0, 1, 2, 3, 4, 5, 6, 7, 16, 17], [0, 1, 2, 3, 4, 5, 6, 7, 8, 9, 10, 11, 12, 13, 14, 15, 16, 17, 18], [0, 1, 2, 3, 4, 5, 6, 7, 8, 9, 10, 11, 12, 13, 14, 15, 16, 17, 18, 19], [0, 1, 2, 3, 4, 5, 6, 7, 8, 9, 10, 11, 12, 13, 14, 15, 16, 17, 18, 19, 20], [0, 1, 2, 3, 4, 5, 6, 7, 8, 9, 10, 11, 12, 13, 14, 15, 16, 17, 18, 19, 20, 21], [0, 1, 2, 3, 4, 5, 6, 7, 8, 9, 10, 11, 12, 13, 14, 15, 16, 17, 18, 19, 20, 21, 22], [0, 1, 2, 3, 4, 5, 6, 7, 8, 9, 10, 11, 12, 13, 14, 15, 16, 17, 18, 19, 20, 21, 22, 23], [0, 1, 2, 3, 4, 5, 6, 7, 8, 9, 10, 11, 12, 13, 14, 15, 16, 17, 18, 19, 20, 21], [0, 1, 2, 3, 4, 5, 6, 7, 8, 9, 10, 11, 12, 13, 14, 15, 16, 17, 18, 19, 20, 21, 25], [0, 1, 2, 3, 4, 5, 6, 7, 8, 9, 10, 11, 12, 13, 14, 15, 16, 17, 18, 19, 20, 21, 25, 26], [0, 1, 2, 3, 4, 5, 6, 7, 8, 9, 10, 11, 12, 13, 14, 15, 16, 17, 18, 19, 20, 21, 25, 26, 27], [0, 1, 2, 3, 4, 5, 6, 7, 8, 9, 10, 11, 12, 13, 14, 15, 16, 17, 18, 19, 20, 21, 22, 23, 24, 25, 26, 27, 28], [0, 1, 2, 3, 4, 5, 6, 7, 8, 9, 10, 11, 12, 13, 14, 15, 16, 17, 18, 19, 20, 21, 22, 23, 24, 25, 26, 27, 28, 29], [0, 1, 2, 3, 4, 5, 6, 7, 8, 9, 10, 11, 12, 13, 14, 15, 16, 17, 18, 19, 20, 21, 22, 23, 24, 25, 26, 27, 28, 29, 30]] [[], [149], [149, 150], [], [152], [152, 153], [149, 150, 151, 152, 153, 154], [149, 150, 151, 152, 153, 154, 155], [149, 150, 151, 152, 153, 154, 155, 156], [149, 150, 151, 152, 153, 154, 155, 156, 157], [149, 150, 151, 152, 153, 154, 155, 156], [149, 150, 151, 152, 153, 154, 155, 156, 159], [149, 150, 151, 152, 153, 154, 155, 156, 157, 158, 159, 160], [149, 150, 151, 152, 153, 154, 155, 156, 157, 158, 159, 160, 161], [149, 150, 151, 152, 153, 154, 155, 156, 157, 158, 159, 160, 161, 162], [149, 150, 151, 152, 153, 154, 155, 156, 157, 158, 159, 160, 161, 162, 163], [149, 150, 151, 152, 153, 154, 155, 156], [149, 150, 151, 152, 153, 154, 155, 156, 165], [149, 150, 151, 152, 153, 154, 155, 156, 165, 166], [149, 150, 151, 152, 153, 154, 155, 156, 157, 158, 159, 160, 161, 162, 163, 164, 165, 166, 167], [149, 150, 151, 152, 153, 154, 155, 156, 157, 158, 159, 160, 161, 162, 163, 164, 165, 166, 167, 168], [149, 150, 151, 152, 153, 154, 155, 156, 157, 158, 159, 160, 161, 162, 163, 164, 165, 166, 167, 168, 169], [149, 150, 151, 152, 153, 154, 155, 156, 157, 158, 159, 160, 161, 162, 163, 164, 165, 166, 167, 168, 169, 170], [149, 150, 151, 152, 153, 154, 155, 156, 157, 158, 159, 160, 161, 162, 163, 164, 165, 166, 167, 168, 169, 170, 171], [149, 150, 151, 152, 153, 154, 155, 156, 157, 158, 159, 160, 161, 162, 163, 164, 165, 166, 167, 168, 169, 170, 171, 172], [149, 150, 151, 152, 153, 154, 155, 156, 157, 158, 159, 160, 161, 162, 163, 164, 165, 166, 167, 168, 169, 170], [149, 150, 151, 152, 153, 154, 155, 156, 157, 158, 159, 160, 161, 162, 163, 164, 165, 166, 167, 168, 169, 170, 174], [149, 150, 151, 152, 153, 154, 155, 156, 157, 158, 159, 160, 161, 162, 163, 164, 165, 166, 167, 168, 169, 170, 174, 175], [149, 150, 151, 152, 153, 154, 155, 156, 157, 158, 159, 160, 161, 162, 163, 164, 165, 166, 167, 168, 169, 170, 174, 175, 176], [149, 150, 151, 152, 153, 154, 155, 156, 157, 158, 159, 160, 161, 162, 163, 164, 165, 166, 167, 168, 169, 170, 171, 172, 173, 174, 175, 176, 177], [149, 150, 151, 152, 153, 154, 155, 156, 157, 158, 159, 160, 161, 162, 163, 164, 165, 166, 167, 168, 169, 170, 171, 172, 173, 174, 175, 176, 177, 178], [149, 150, 151, 152, 153, 154, 155, 156, 157, 158, 159, 160, 161, 162, 163, 164, 165, 166, 167, 168, 169, 170, 171, 172, 173, 174, 175, 176, 177, 178, 179]] [[152, 153, 154], [152, 153, 154], [152, 153, 154], [149, 150, 151], [149, 150, 151], [149, 150, 151], [], [], [159, 160, 165, 166, 167], [159, 160, 165, 166, 167], [157, 158, 165, 166, 167], [157, 158, 165, 166, 167], [165, 166, 167], [165, 166, 167], [165, 166, 167], [165, 166, 167], [157, 158, 159, 160, 161, 162, 163, 164], [157, 158, 159, 160, 161, 162, 163, 164], [157, 158, 159, 160, 161, 162, 163, 164], [], [], [], [174, 175, 176, 177], [174, 175, 176, 177], [174, 175, 176, 177], [171, 172, 173], [171, 172, 173], [171, 172, 173], [171, 172, 173], [], [], []] rfl ?_
      refine DR.step (q_fldp rfl rfl rfl rfl (by decide)) rfl rfl ?_; refine DR.step (q_fldp rfl rfl rfl rfl (by decide)) rfl rfl ?_; refine DR.step (q_ld1 rfl rfl rfl rfl rfl) rfl rfl ?_
      refine DR.step (q_fldp rfl rfl rfl rfl (by decide)) rfl rfl ?_; refine DR.step (q_ld1 rfl rfl rfl rfl rfl) rfl rfl ?_; refine DR.step (q_call0 rfl rfl (c6) rfl) rfl rfl ?_
      refine DR.step (q_leqK rfl rfl rfl rfl (by assumption)) rfl rfl ?_; refine DR.step (q_moveC rfl rfl rfl) rfl rfl ?_
      refine DR.step (Qt.yes rfl rfl rfl (q_fldp rfl rfl rfl rfl (by decide))) rfl rfl ?_; refine DR.step (Qt.yes rfl rfl rfl (q_ld1 rfl rfl rfl rfl rfl)) rfl rfl ?_
      refine DR.step (Qt.yes rfl rfl rfl (q_fldp rfl rfl rfl rfl (by decide))) rfl rfl ?_; refine DR.step (Qt.yes rfl rfl rfl (q_ld1 rfl rfl rfl rfl rfl)) rfl rfl ?_
      refine DR.step (Qt.yes rfl rfl rfl (q_at rfl rfl rfl rfl (by omega) (by assumption) rfl)) rfl rfl ?_
      refine DR.step (Qt.yes rfl rfl rfl (q_fldr rfl rfl rfl rfl (by decide))) rfl rfl ?_; refine DR.step (Qt.yes rfl rfl rfl (q_lr1 rfl rfl rfl rfl)) rfl rfl ?_
      refine DR.step (Qt.yes rfl rfl rfl (q_len rfl rfl rfl)) rfl rfl ?_; refine DR.step (Qt.yes rfl rfl rfl (q_fldp rfl rfl rfl rfl (by decide))) rfl rfl ?_
      refine DR.step (Qt.yes rfl rfl rfl (q_fldp rfl rfl rfl rfl (by decide))) rfl rfl ?_; refine DR.step (Qt.yes rfl rfl rfl (q_ld1 rfl rfl rfl rfl rfl)) rfl rfl ?_
      refine DR.step (Qt.yes rfl rfl rfl (q_geqK rfl rfl rfl rfl (by assumption))) rfl rfl ?_; refine DR.step (q_pickT rfl rfl rfl rfl) rfl rfl ?_
      refine DR.step (q_moveC rfl rfl rfl) rfl rfl ?_; refine DR.step (Qt.no rfl rfl rfl rfl) rfl rfl ?_; refine DR.step (Qt.no rfl rfl rfl rfl) rfl rfl ?_
      refine DR.step (Qt.no rfl rfl rfl rfl) rfl rfl ?_; refine DR.step (Qt.no rfl rfl rfl rfl) rfl rfl ?_; refine DR.step (Qt.no rfl rfl rfl rfl) rfl rfl ?_
      refine DR.step (Qt.no rfl rfl rfl rfl) rfl rfl ?_; refine DR.step (Qt.no rfl rfl rfl rfl) rfl rfl ?_; refine DR.step (Qt.no rfl rfl rfl rfl) rfl rfl ?_
      refine DR.step (q_pickF rfl rfl rfl rfl) rfl rfl ?_; refine DR.step (q_assignC rfl rfl rfl) rfl rfl ?_; refine DR.stop (by kernel_rfl) (by kernel_rfl) ?_
      refine L_nil ?_; refine T_n ?_; refine A_ret ?_; refine F_r ?_
      exact E_tmp rfl rfl (W_end [] (by decide) rfl rfl rfl)
  · have hb1 : decide (x.Base.Tick ≤ ((knownTicks x.Tracks : Nat) : Int)) = false := decide_eq_false k1
    rw [hb1]
    refine A_exit ?_; refine T_x ?_; refine T_x ?_; refine B_xs ?_; refine T_n ?_; refine A_seq ?_
    refine A_draw [[], [0], [0, 1], [], [3], [3, 4], [0, 1, 2, 3, 4, 5], [0, 1, 2, 3, 4, 5, 6], [0, 1, 2, 3, 4, 5, 6, 7], [0, 1, 2, 3, 4, 5, 6, 7, 8], [0, 1, 2, 3, 4, 5, 6, 7], [0, 1, 2, 3, 4, 5, 6, 7, 10], [0, 1, 2, 3, 4, 5, 6, 7, 8, 9, 10, 11], [0, 1, 2, 3, 4, 5, 6, 7, 8, 9, 10, 11, 12], [0, 1, 2, 3, 4, 5, 6, 7, 8, 9, 10, 11, 12, 13], [0, 1, 2, 3, 4, 5, 6, 7, 8, 9, 10, 11, 12, 13, 14], [0, 1, 2, 3, 4, 5, 6, 7], [0, 1, 2, 3, 4, 5, 6, 7, 16], [0, 1, 2, 3, 4, 5, 6, 7, 16, 17], [0, 1, 2, 3, 4, 5, 6, 7, 8, 9, 10, 11, 12, 13, 14, 15, 16, 17, 18], [0, 1, 2, 3, 4, 5, 6, 7, 8, 9, 10, 11, 12, 13, 14, 15, 16, 17, 18, 19], [0, 1, 2, 3, 4, 5, 6, 7, 8, 9, 10, 11, 12, 13, 14, 15, 16, 17, 18, 19, 20], [0, 1, 2, 3, 4, 5, 6, 7, 8, 9, 10, 11, 12, 13, 14, 15, 16, 17, 18, 19, 20, 21], [0, 1, 2, 3, 4, 5, 6, 7, 8, 9, 10, 11, 12, 13, 14, 15, 16, 17, 18, 19, 20, 21, 22], [0, 1, 2, 3, 4, 5, 6, 7, 8, 9, 10, 11, 12, 13, 14, 15, 16, 17, 18, 19, 20, 21, 22, 23], [0, 1, 2, 3, 4, 5, 6, 7, 8, 9, 10, 11, 12, 13, 14, 15, 16, 17, 18, 19, 20, 21], [0, 1, 2, 3, 4, 5, 6, 7, 8, 9, 10, 11, 12, 13, 14, 15, 16, 17, 18, 19, 20, 21, 25], [0, 1, 2, 3, 4, 5, 6, 7, 8, 9, 10, 11, 12, 13, 14, 15, 16, 17, 18, 19, 20, 21, 25, 26], [0, 1, 2, 3, 4, 5, 6, 7, 8, 9, 10, 11, 12, 13, 14, 15, 16, 17, 18, 19, 20, 21, 25, 26, 27], [0, 1, 2, 3, 4, 5, 6, 7, 8, 9, 10, 11, 12, 13, 14, 15, 16, 17, 18, 19, 20, 21, 22, 23, 24, 25, 26, 27, 28], [0, 1, 2, 3, 4, 5, 6, 7, 8, 9, 10, 11, 12, 13, 14, 15, 16, 17, 18, 19, 20, 21, 22, 23, 24, 25, 26, 27, 28, 29], [0, 1, 2, 3, 4, 5, 6, 7, 8, 9, 10, 11, 12, 13, 14, 15, 16, 17, 18, 19, 20, 21, 22, 23, 24, 25, 26, 27, 28, 29, 30]] [[], [149], [149, 150], [], [152], [152, 153], [149, 150, 151, 152, 153, 154], [149, 150, 151, 152, 153, 154, 155], [149, 150, 151, 152, 153, 154, 155, 156], [149, 150, 151, 152, 153, 154, 155, 156, 157], [149, 150, 151, 152, 153, 154, 155, 156], [149, 150, 151, 152, 153, 154, 155, 156, 159], [149, 150, 151, 152, 153, 154, 155, 156, 157, 158, 159, 160], [149, 150, 151, 152, 153, 154, 155, 156, 157, 158, 159, 160, 161], [149, 150, 151, 152, 153, 154, 155, 156, 157, 158, 159, 160, 161, 162], [149, 150, 151, 152, 153, 154, 155, 156, 157, 158, 159, 160, 161, 162, 163], [149, 150, 151, 152, 153, 154, 155, 156], [149, 150, 151, 152, 153, 154, 155, 156, 165], [149, 150, 151, 152, 153, 154, 155, 156, 165, 166], [149, 150, 151, 152, 153, 154, 155, 156, 157, 158, 159, 160, 161, 162, 163, 164, 165, 166, 167], [149, 150, 151, 152, 153, 154, 155, 156, 157, 158, 159, 160, 161, 162, 163, 164, 165, 166, 167, 168], [149, 150, 151, 152, 153, 154, 155, 156, 157, 158, 159, 160, 161, 162, 163, 164, 165, 166, 167, 168, 169], [149, 150, 151, 152, 153, 154, 155, 156, 157, 158, 159, 160, 161, 162, 163, 164, 165, 166, 167, 168, 169, 170], [149, 150, 151, 152, 153, 154, 155, 156, 157, 158, 159, 160, 161, 162, 163, 164, 165, 166, 167, 168, 169, 170, 171], [149, 150, 151, 152, 153, 154, 155, 156, 157, 158, 159, 160, 161, 162, 163, 164, 165, 166, 167, 168, 169, 170, 171, 172], [149, 150, 151, 152, 153, 154, 155, 156, 157, 158, 159, 160, 161, 162, 163, 164, 165, 166, 167, 168, 169, 170], [149, 150, 151, 152, 153, 154, 155, 156, 157, 158, 159, 160, 161, 162, 163, 164, 165, 166, 167, 168, 169, 170, 174], [149, 150, 151, 152, 153, 154, 155, 156, 157, 158, 159, 160, 161, 162, 163, 164, 165, 166, 167, 168, 169, 170, 174, 175], [149, 150, 151, 152, 153, 154, 155, 156, 157, 158, 159, 160, 161, 162, 163, 164, 165, 166, 167, 168, 169, 170, 174, 175, 176], [149, 150, 151, 152, 153, 154, 155, 156, 157, 158, 159, 160, 161, 162, 163, 164, 165, 166, 167, 168, 169, 170, 171, 172, 173, 174, 175, 176, 177], [149, 150, 151, 152, 153, 154, 155, 156, 157, 158, 159, 160, 161, 162, 163, 164, 165, 166, 167, 168, 169, 170, 171, 172, 173, 174, 175, 176, 177, 178], [149, 150, 151, 152, 153, 154, 155, 156, 157, 158, 159, 160, 161, 162, 163, 164, 165, 166, 167, 168, 169, 170, 171, 172, 173, 174, 175, 176, 177, 178, 179]] [[152, 153, 154], [152, 153, 154], [152, 153, 154], [149, 150, 151], [149, 150, 151], [149, 150, 151], [], [], [159, 160, 165, 166, 167], [159, 160, 165, 166, 167], [157, 158, 165, 166, 167], [157, 158, 165, 166, 167], [165, 166, 167], [165, 166, 167], [165, 166, 167], [165, 166, 167], [157, 158, 159, 160, 161, 162, 163, 164], [157, 158, 159, 160, 161, 162, 163, 164], [157, 158, 159, 160, 161, 162, 163, 164], [], [], [], [174, 175, 176, 177], [174, 175, 176, 177], [174, 175, 176, 177], [171, 172, 173], [171, 172, 173], [171, 172, 173], [171, 172, 173], [], [], []] rfl ?_
    refine DR.step (q_fldp rfl rfl rfl rfl (by decide)) rfl rfl ?_; refine DR.step (q_fldp rfl rfl rfl rfl (by decide)) rfl rfl ?_; refine DR.step (q_ld1 rfl rfl rfl rfl rfl) rfl rfl ?_
    refine DR.step (q_fldp rfl rfl rfl rfl (by decide)) rfl rfl ?_; refine DR.step (q_ld1 rfl rfl rfl rfl rfl) rfl rfl ?_; refine DR.step (q_call0 rfl rfl (c6) rfl) rfl rfl ?_
    refine DR.step (q_leqK rfl rfl rfl rfl (by assumption)) rfl rfl ?_; refine DR.step (q_moveC rfl rfl rfl) rfl rfl ?_; refine DR.step (Qt.no rfl rfl rfl rfl) rfl rfl ?_
    refine DR.step (Qt.no rfl rfl rfl rfl) rfl rfl ?_; refine DR.step (Qt.no rfl rfl rfl rfl) rfl rfl ?_; refine DR.step (Qt.no rfl rfl rfl rfl) rfl rfl ?_
    refine DR.step (Qt.no rfl rfl rfl rfl) rfl rfl ?_; refine DR.step (Qt.no rfl rfl rfl rfl) rfl rfl ?_; refine DR.step (Qt.no rfl rfl rfl rfl) rfl rfl ?_
    refine DR.step (Qt.no rfl rfl rfl rfl) rfl rfl ?_; refine DR.step (Qt.no rfl rfl rfl rfl) rfl rfl ?_; refine DR.step (Qt.no rfl rfl rfl rfl) rfl rfl ?_
    refine DR.step (Qt.no rfl rfl rfl rfl) rfl rfl ?_; refine DR.step (Qt.no rfl rfl rfl rfl) rfl rfl ?_; refine DR.step (q_pickF rfl rfl rfl rfl) rfl rfl ?_
    refine DR.step (q_moveC rfl rfl rfl) rfl rfl ?_; refine DR.step (Qt.no rfl rfl rfl rfl) rfl rfl ?_; refine DR.step (Qt.no rfl rfl rfl rfl) rfl rfl ?_
    refine DR.step (Qt.no rfl rfl rfl rfl) rfl rfl ?_; refine DR.step (Qt.no rfl rfl rfl rfl) rfl rfl ?_; refine DR.step (Qt.no rfl rfl rfl rfl) rfl rfl ?_
    refine DR.step (Qt.no rfl rfl rfl rfl) rfl rfl ?_; refine DR.step (Qt.no rfl rfl rfl rfl) rfl rfl ?_; refine DR.step (Qt.no rfl rfl rfl rfl) rfl rfl ?_
    refine DR.step (q_pickF rfl rfl rfl rfl) rfl rfl ?_; refine DR.step (q_assignC rfl rfl rfl) rfl rfl ?_; refine DR.stop (by kernel_rfl) (by kernel_rfl) ?_
    refine L_nil ?_; refine T_n ?_; refine A_ret ?_; refine F_r ?_
    exact E_tmp rfl rfl (W_end [] (by decide) rfl rfl rfl)
end Go.Proofs.Ytbpebmolbdplmaa
end
