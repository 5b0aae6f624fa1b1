/-
  PeerOk, in the program and in the reference.
  Conditions: none.
  What a valid wire, pace and match are. No statement of the program is proved here.
  Conditions: none.
  WireOk and PaceOk, in the program and in the reference.
  Conditions: none.
  The peers of a match, and its links and watchers: what the program's parts of MatchOk return.
  Conditions: none.
  MatchOk in the program.
  Conditions: none.
  MatchOk in the reference.
  Conditions: none.
  PeerOk in the reference.
  Conditions: none.
-/
import Derived.Test.YtbpebmolbdplmaaGreatDDTicksRowk9
import Derived.Test.YtbpebmolbdplmaaGreatDDTicksRowk10
section
set_option linter.unusedSimpArgs false
set_option linter.unusedVariables false
set_option maxRecDepth 8000
namespace Go.Proofs.YtbpebmolbdplmaaGreat
open Go.RowKit

theorem at_nat {α : Type} [Enc α] {xs : List α} {i : Int} (h : i.toNat < xs.length) : (els xs)[i.toNat]? = some (Enc.e (xs[i.toNat]'h)) := by simp [els,h]
theorem world_ticks {w : TWorld} (h : worldOk w = true) : 0 ≤ w.Tick ∧ w.Tick ≤ 100000 := by
  have h2 := (worldOk_spec h).2.1
  rwa [inR_iff] at h2
section
variable {p : TPeer}
theorem no1 (h : (((!tracksOk p.Tracks || !worldOk p.Base) || !worldOk p.Now) || !decide (p.Base.Level = p.Now.Level)) = true) : ¬ PeerP p := fun ⟨⟨q1,q2,q3,q4⟩,_⟩ => by
  rw [q1,q2,q3,decide_eq_true q4] at h; exact absurd h (by decide)
theorem no2 (h : ((decide ((p.Base.Scores.length : Int) ≠ p.Tracks.length) || decide ((p.Now.Scores.length : Int) ≠ p.Tracks.length)) || !faultOk p.Fault p.Tracks.length) = true) : ¬ PeerP p := fun ⟨_,⟨q1,q2,q3⟩,_⟩ => by
  rw [q3,decide_eq_false (by omega),decide_eq_false (by omega)] at h; exact absurd h (by decide)
theorem no3 (h : ((!inR p.Me 0 ((p.Tracks.length : Int) - 1) || !inR p.Delay 0 5) || !inR p.Ahead 1 8) = true) : ¬ PeerP p := fun ⟨_,_,⟨q1,q2,q3⟩,_⟩ => by
  rw [inR_iff.2 q1,inR_iff.2 q2,inR_iff.2 q3] at h; exact absurd h (by decide)
theorem no4 (h : ((!inR p.Seed 0 65535 || !inR p.Rolls 0 1000000) || !inR p.Again 0 1000000) = true) : ¬ PeerP p := fun ⟨_,_,_,⟨q1,q2,q3⟩,_⟩ => by
  rw [inR_iff.2 q1,inR_iff.2 q2,inR_iff.2 q3] at h; exact absurd h (by decide)
theorem no5 (h : ((!inR (p.Now.Tick - p.Base.Tick) 0 p.Ahead || decide ((p.Used.length : Int) ≠ p.Now.Tick - p.Base.Tick)) || decide ((p.Saves.length : Int) ≠ p.Now.Tick - p.Base.Tick)) = true) : ¬ PeerP p := fun ⟨_,_,_,_,⟨q1,q2,q3⟩,_⟩ => by
  rw [inR_iff.2 q1,decide_eq_false (by omega),decide_eq_false (by omega)] at h; exact absurd h (by decide)
theorem fin_eq (h1 : tracksOk p.Tracks = true ∧ worldOk p.Base = true ∧ worldOk p.Now = true ∧ p.Base.Level = p.Now.Level)
    (h2 : p.Base.Scores.length = p.Tracks.length ∧ p.Now.Scores.length = p.Tracks.length ∧ faultOk p.Fault p.Tracks.length = true)
    (h3 : (0 ≤ p.Me ∧ p.Me ≤ (p.Tracks.length : Int) - 1) ∧ (0 ≤ p.Delay ∧ p.Delay ≤ 5) ∧ (1 ≤ p.Ahead ∧ p.Ahead ≤ 8))
    (h4 : (0 ≤ p.Seed ∧ p.Seed ≤ 65535) ∧ (0 ≤ p.Rolls ∧ p.Rolls ≤ 1000000) ∧ (0 ≤ p.Again ∧ p.Again ≤ 1000000))
    (h5 : (0 ≤ p.Now.Tick - p.Base.Tick ∧ p.Now.Tick - p.Base.Tick ≤ p.Ahead) ∧ (p.Used.length : Int) = p.Now.Tick - p.Base.Tick ∧ (p.Saves.length : Int) = p.Now.Tick - p.Base.Tick)
    (h6 : (p.Used.all fun row => rowOk row p.Tracks.length) = true ∧ ∀ k (h : k < p.Saves.length),p.Saves[k].Tick = p.Base.Tick + k) :
    ((decide (p.Base.Tick ≤ (knownTicks p.Tracks : Nat)) && decide (p.Now.Tick ≤ (lenAt p.Tracks p.Me.toNat : Nat))) && decide ((p.Sums.length : Int) = p.Base.Tick + 1)) = peerOk p := by
  by_cases h7 : p.Base.Tick ≤ knownTicks p.Tracks ∧ p.Now.Tick ≤ lenAt p.Tracks p.Me.toNat ∧ (p.Sums.length : Int) = p.Base.Tick + 1
  · rw [peer_T ⟨h1,h2,h3,h4,h5,h6,h7⟩,decide_eq_true h7.1,decide_eq_true h7.2.1,decide_eq_true h7.2.2]; rfl
  · rw [peer_F fun ⟨_,_,_,_,_,_,h8⟩ => h7 h8]
    rw [← Bool.not_eq_true]
    simp only [Bool.and_eq_true,decide_eq_true_eq]
    exact fun ⟨⟨a,b⟩,c⟩ => h7 ⟨a,b,c⟩
end
set_option maxHeartbeats 8000000 in
theorem I_PeerOk (x : TPeer) (hg : Enc.gd x) : Con Tryz.prog 72 [] [ag x] [] (B (peerOk x)) := by
  obtain ⟨gMe,gDe,gAh,gSe,gTr,gBa,gNo,gUs,gSa,gSu,gFa,gRo,gAg⟩ := hg
  have hlt := els_len x.Tracks
  have hlu := els_len x.Used
  have hls := els_len x.Saves
  have hlm := els_len x.Sums
  have hlb := els_len x.Base.Scores
  have hln := els_len x.Now.Scores
  have c1 := I_TracksOk x.Tracks gTr
  have c2 := I_WorldOk x.Base gBa
  have c3 := I_WorldOk x.Now gNo
  have c4 := I_sameLevel x.Base.Level x.Now.Level gBa.1
  have c5 := I_FaultOk x.Fault (els x.Tracks).length (by omega)
  have c6 := I_KnownTicks x.Tracks gTr
  refine Con.of Tryz.func72 rfl Tryz.ntmps72 rfl (fun E => ?_)
  refine A_seq (A_region ?_);refine M1 (q_boxN rfl rfl rfl rfl) rfl rfl ?_;refine M0 (q_assignC rfl rfl rfl) rfl rfl ?_;refine L_nil (T_n (A_seq ?_))
  refine A_region ?_;refine M0 (q_fldp rfl rfl rfl rfl (by decide)) rfl rfl ?_;refine M0 (q_ld1 rfl rfl rfl rfl rfl) rfl rfl ?_;refine M0 (q_len rfl rfl rfl) rfl rfl ?_
  refine M0 (q_assignC rfl rfl rfl) rfl rfl ?_;refine L_nil (T_n (A_seq (A_seq (A_region ?_))));refine M0 (q_fldp rfl rfl rfl rfl (by decide)) rfl rfl ?_
  refine M0 (q_ld1 rfl rfl rfl rfl rfl) rfl rfl ?_;refine M0 (q_call0 rfl rfl (c1) rfl) rfl rfl ?_;refine M0 (q_not rfl rfl rfl) rfl rfl ?_;refine M0 (q_moveC rfl rfl rfl) rfl rfl ?_
  refine M0 (Qt.grdF rfl rfl rfl .stop (fun hgrd => q_fldp rfl rfl rfl rfl (by decide))) rfl rfl ?_
  refine M0 (Qt.grdF rfl rfl rfl (.hit .stop) (fun hgrd => q_ldN rfl rfl rfl rfl rfl rfl)) rfl rfl ?_
  refine M0 (Qt.grdF rfl rfl rfl (.hit (.hit .stop)) (fun hgrd => q_call0 rfl rfl (c2) rfl)) rfl rfl ?_
  refine M0 (Qt.grdF rfl rfl rfl (.hit (.hit (.hit .stop))) (fun hgrd => q_not rfl rfl rfl)) rfl rfl ?_;refine M0 (q_or rfl rfl rfl rfl) rfl rfl ?_
  refine M0 (q_moveC rfl rfl rfl) rfl rfl ?_;refine M0 (Qt.grdF rfl rfl rfl .stop (fun hgrd => q_fldp rfl rfl rfl rfl (by decide))) rfl rfl ?_
  refine M0 (Qt.grdF rfl rfl rfl (.hit .stop) (fun hgrd => q_ldN rfl rfl rfl rfl rfl rfl)) rfl rfl ?_
  refine M0 (Qt.grdF rfl rfl rfl (.hit (.hit .stop)) (fun hgrd => q_call0 rfl rfl (c3) rfl)) rfl rfl ?_
  refine M0 (Qt.grdF rfl rfl rfl (.hit (.hit (.hit .stop))) (fun hgrd => q_not rfl rfl rfl)) rfl rfl ?_;refine M0 (q_or rfl rfl rfl rfl) rfl rfl ?_
  refine M0 (q_moveC rfl rfl rfl) rfl rfl ?_;refine M0 (Qt.grdF rfl rfl rfl .stop (fun hgrd => q_fldp rfl rfl rfl rfl (by decide))) rfl rfl ?_
  refine M0 (Qt.grdF rfl rfl rfl (.hit .stop) (fun hgrd => q_fldp rfl rfl rfl rfl (by decide))) rfl rfl ?_
  refine M0 (Qt.grdF rfl rfl rfl (.hit (.hit .stop)) (fun hgrd => q_ldN rfl rfl rfl rfl rfl rfl)) rfl rfl ?_
  refine M0 (Qt.grdF rfl rfl rfl (.hit (.hit (.hit .stop))) (fun hgrd => q_fldp rfl rfl rfl rfl (by decide))) rfl rfl ?_
  refine M0 (Qt.grdF rfl rfl rfl (.hit (.hit (.hit (.hit .stop)))) (fun hgrd => q_fldp rfl rfl rfl rfl (by decide))) rfl rfl ?_
  refine M0 (Qt.grdF rfl rfl rfl (.hit (.hit (.hit (.hit (.hit .stop))))) (fun hgrd => q_ldN rfl rfl rfl rfl rfl rfl)) rfl rfl ?_
  refine M0 (Qt.grdF rfl rfl rfl (.hit (.hit (.hit (.hit (.hit (.hit .stop)))))) (fun hgrd => q_call0 rfl rfl (c4) rfl)) rfl rfl ?_
  refine M0 (Qt.grdF rfl rfl rfl (.hit (.hit (.hit (.hit (.hit (.hit (.hit .stop))))))) (fun hgrd => q_not rfl rfl rfl)) rfl rfl ?_;refine M0 (q_or rfl rfl rfl rfl) rfl rfl ?_
  refine L_nil (T_n ?_)
  refine A_cond rfl (fun h1 => ?_) (fun h1 => ?_)
  · rw [peer_F (no1 h1)]
    refine A_seq (A_region ?_);refine M0 (q_assignC rfl rfl rfl) rfl rfl ?_;refine L_nil (T_n (A_ret (T_r (F_r ?_))))
    exact E_tmp rfl rfl (W_end [] (by decide) rfl rfl rfl)
  simp only [Bool.or_eq_false_iff,Bool.not_eq_false',decide_eq_true_eq] at h1
  obtain ⟨⟨⟨q1,q2⟩,q3⟩,q4⟩ := h1
  have tB := world_ticks q2
  have tN := world_ticks q3
  have tL := tracks_spec q1
  refine AWP.pre (st' := (⟨_,[(1,.o (.c (.ptr 0 0))),(3,I (els x.Tracks).length)],[.box ((Enc.e x).map (V1.rd []))]⟩ : St)) ?_ (W_go [0] (by decide) rfl (rfl) (.cons rfl (.cons rfl (.nil))))
  refine A_skip (T_n (A_seq (A_seq (A_region ?_))));refine M0 (q_fldp rfl rfl rfl rfl (by decide)) rfl rfl ?_
  refine M0 (q_fldp rfl rfl rfl rfl (by decide)) rfl rfl ?_;refine M0 (q_ld1 rfl rfl rfl rfl rfl) rfl rfl ?_;refine M0 (q_len rfl rfl rfl) rfl rfl ?_
  refine M0 (q_moveC rfl rfl rfl) rfl rfl ?_;refine M0 (q_neq rfl rfl rfl rfl) rfl rfl ?_;refine M0 (q_moveC rfl rfl rfl) rfl rfl ?_
  refine M0 (Qt.grdF rfl rfl rfl .stop (fun hgrd => q_fldp rfl rfl rfl rfl (by decide))) rfl rfl ?_
  refine M0 (Qt.grdF rfl rfl rfl (.hit .stop) (fun hgrd => q_fldp rfl rfl rfl rfl (by decide))) rfl rfl ?_
  refine M0 (Qt.grdF rfl rfl rfl (.hit (.hit .stop)) (fun hgrd => q_ld1 rfl rfl rfl rfl rfl)) rfl rfl ?_
  refine M0 (Qt.grdF rfl rfl rfl (.hit (.hit (.hit .stop))) (fun hgrd => q_len rfl rfl rfl)) rfl rfl ?_
  refine M0 (Qt.grdF rfl rfl rfl (.hit (.hit (.hit (.hit .stop)))) (fun hgrd => q_moveC rfl rfl rfl)) rfl rfl ?_
  refine M0 (Qt.grdF rfl rfl rfl (.hit (.hit (.hit (.hit (.hit .stop))))) (fun hgrd => q_neq rfl rfl rfl rfl)) rfl rfl ?_;refine M0 (q_or rfl rfl rfl rfl) rfl rfl ?_
  refine M0 (q_moveC rfl rfl rfl) rfl rfl ?_;refine M0 (Qt.grdF rfl rfl rfl .stop (fun hgrd => q_fldp rfl rfl rfl rfl (by decide))) rfl rfl ?_
  refine M0 (Qt.grdF rfl rfl rfl (.hit .stop) (fun hgrd => q_ldN rfl rfl rfl rfl rfl rfl)) rfl rfl ?_
  refine M0 (Qt.grdF rfl rfl rfl (.hit (.hit .stop)) (fun hgrd => q_moveC rfl rfl rfl)) rfl rfl ?_
  refine M0 (Qt.grdF rfl rfl rfl (.hit (.hit (.hit .stop))) (fun hgrd => q_call0 rfl rfl (c5) rfl)) rfl rfl ?_
  refine M0 (Qt.grdF rfl rfl rfl (.hit (.hit (.hit (.hit .stop)))) (fun hgrd => q_not rfl rfl rfl)) rfl rfl ?_;refine M0 (q_or rfl rfl rfl rfl) rfl rfl ?_;refine L_nil (T_n ?_)
  refine A_cond rfl (fun h2 => ?_) (fun h2 => ?_)
  · rw [hlt,hlb,hln] at h2
    rw [peer_F (no2 h2)]
    refine A_seq (A_region ?_);refine M0 (q_assignC rfl rfl rfl) rfl rfl ?_;refine L_nil (T_n (A_ret (T_r (F_r ?_))))
    exact E_tmp rfl rfl (W_end [] (by decide) rfl rfl rfl)
  rw [hlt,hlb,hln] at h2
  simp only [Bool.or_eq_false_iff,Bool.not_eq_false',decide_eq_false_iff_not,Classical.not_not] at h2
  obtain ⟨⟨q5,q6⟩,q7⟩ := h2
  refine AWP.pre (st' := (⟨_,[(1,.o (.c (.ptr 0 0))),(3,I (els x.Tracks).length)],[.box ((Enc.e x).map (V1.rd []))]⟩ : St)) ?_ (W_go [0] (by decide) rfl (rfl) (.cons rfl (.cons rfl (.nil))))
  refine A_skip (T_n (A_seq (A_seq (A_region ?_))));refine M0 (q_fldp rfl rfl rfl rfl (by decide)) rfl rfl ?_
  refine M0 (q_ld1 rfl rfl rfl rfl rfl) rfl rfl ?_;refine M0 (q_moveC rfl rfl rfl) rfl rfl ?_;refine M0 (q_sub rfl rfl rfl rfl (by omega)) rfl rfl ?_
  refine M0 (q_call0 rfl rfl (I_between x.Me 0 (((els x.Tracks).length : Int) - 1)) rfl) rfl rfl ?_;refine M0 (q_not rfl rfl rfl) rfl rfl ?_;refine M0 (q_moveC rfl rfl rfl) rfl rfl ?_
  refine M0 (Qt.grdF rfl rfl rfl .stop (fun hgrd => q_fldp rfl rfl rfl rfl (by decide))) rfl rfl ?_
  refine M0 (Qt.grdF rfl rfl rfl (.hit .stop) (fun hgrd => q_ld1 rfl rfl rfl rfl rfl)) rfl rfl ?_
  refine M0 (Qt.grdF rfl rfl rfl (.hit (.hit .stop)) (fun hgrd => q_call0 rfl rfl (I_between x.Delay 0 5) rfl)) rfl rfl ?_
  refine M0 (Qt.grdF rfl rfl rfl (.hit (.hit (.hit .stop))) (fun hgrd => q_not rfl rfl rfl)) rfl rfl ?_;refine M0 (q_or rfl rfl rfl rfl) rfl rfl ?_
  refine M0 (q_moveC rfl rfl rfl) rfl rfl ?_;refine M0 (Qt.grdF rfl rfl rfl .stop (fun hgrd => q_fldp rfl rfl rfl rfl (by decide))) rfl rfl ?_
  refine M0 (Qt.grdF rfl rfl rfl (.hit .stop) (fun hgrd => q_ld1 rfl rfl rfl rfl rfl)) rfl rfl ?_
  refine M0 (Qt.grdF rfl rfl rfl (.hit (.hit .stop)) (fun hgrd => q_call0 rfl rfl (I_between x.Ahead 1 8) rfl)) rfl rfl ?_
  refine M0 (Qt.grdF rfl rfl rfl (.hit (.hit (.hit .stop))) (fun hgrd => q_not rfl rfl rfl)) rfl rfl ?_;refine M0 (q_or rfl rfl rfl rfl) rfl rfl ?_;refine L_nil (T_n ?_)
  refine A_cond rfl (fun h3 => ?_) (fun h3 => ?_)
  · rw [hlt] at h3
    rw [peer_F (no3 h3)]
    refine A_seq (A_region ?_);refine M0 (q_assignC rfl rfl rfl) rfl rfl ?_;refine L_nil (T_n (A_ret (T_r (F_r ?_))))
    exact E_tmp rfl rfl (W_end [] (by decide) rfl rfl rfl)
  rw [hlt] at h3
  simp only [Bool.or_eq_false_iff,Bool.not_eq_false',inR_iff] at h3
  obtain ⟨⟨q8,q9⟩,q10⟩ := h3
  refine AWP.pre (st' := (⟨_,[(1,.o (.c (.ptr 0 0))),(3,I (els x.Tracks).length)],[.box ((Enc.e x).map (V1.rd []))]⟩ : St)) ?_ (W_go [0] (by decide) rfl (rfl) (.cons rfl (.cons rfl (.nil))))
  refine A_skip (T_n (A_seq (A_seq (A_region ?_))));refine M0 (q_fldp rfl rfl rfl rfl (by decide)) rfl rfl ?_
  refine M0 (q_ld1 rfl rfl rfl rfl rfl) rfl rfl ?_;refine M0 (q_call0 rfl rfl (I_between x.Seed 0 65535) rfl) rfl rfl ?_;refine M0 (q_not rfl rfl rfl) rfl rfl ?_
  refine M0 (q_moveC rfl rfl rfl) rfl rfl ?_;refine M0 (Qt.grdF rfl rfl rfl .stop (fun hgrd => q_fldp rfl rfl rfl rfl (by decide))) rfl rfl ?_
  refine M0 (Qt.grdF rfl rfl rfl (.hit .stop) (fun hgrd => q_ld1 rfl rfl rfl rfl rfl)) rfl rfl ?_
  refine M0 (Qt.grdF rfl rfl rfl (.hit (.hit .stop)) (fun hgrd => q_call0 rfl rfl (I_between x.Rolls 0 1000000) rfl)) rfl rfl ?_
  refine M0 (Qt.grdF rfl rfl rfl (.hit (.hit (.hit .stop))) (fun hgrd => q_not rfl rfl rfl)) rfl rfl ?_;refine M0 (q_or rfl rfl rfl rfl) rfl rfl ?_
  refine M0 (q_moveC rfl rfl rfl) rfl rfl ?_;refine M0 (Qt.grdF rfl rfl rfl .stop (fun hgrd => q_fldp rfl rfl rfl rfl (by decide))) rfl rfl ?_
  refine M0 (Qt.grdF rfl rfl rfl (.hit .stop) (fun hgrd => q_ld1 rfl rfl rfl rfl rfl)) rfl rfl ?_
  refine M0 (Qt.grdF rfl rfl rfl (.hit (.hit .stop)) (fun hgrd => q_call0 rfl rfl (I_between x.Again 0 1000000) rfl)) rfl rfl ?_
  refine M0 (Qt.grdF rfl rfl rfl (.hit (.hit (.hit .stop))) (fun hgrd => q_not rfl rfl rfl)) rfl rfl ?_;refine M0 (q_or rfl rfl rfl rfl) rfl rfl ?_;refine L_nil (T_n ?_)
  refine A_cond rfl (fun h4 => ?_) (fun h4 => ?_)
  · rw [peer_F (no4 h4)]
    refine A_seq (A_region ?_);refine M0 (q_assignC rfl rfl rfl) rfl rfl ?_;refine L_nil (T_n (A_ret (T_r (F_r ?_))))
    exact E_tmp rfl rfl (W_end [] (by decide) rfl rfl rfl)
  simp only [Bool.or_eq_false_iff,Bool.not_eq_false',inR_iff] at h4
  obtain ⟨⟨q11,q12⟩,q13⟩ := h4
  refine AWP.pre (st' := (⟨_,[(1,.o (.c (.ptr 0 0))),(3,I (els x.Tracks).length)],[.box ((Enc.e x).map (V1.rd []))]⟩ : St)) ?_ (W_go [0] (by decide) rfl (rfl) (.cons rfl (.cons rfl (.nil))))
  refine A_skip (T_n (A_seq (A_region ?_)));refine M0 (q_fldp rfl rfl rfl rfl (by decide)) rfl rfl ?_;refine M0 (q_fldp rfl rfl rfl rfl (by decide)) rfl rfl ?_
  refine M0 (q_ld1 rfl rfl rfl rfl rfl) rfl rfl ?_;refine M0 (q_fldp rfl rfl rfl rfl (by decide)) rfl rfl ?_;refine M0 (q_fldp rfl rfl rfl rfl (by decide)) rfl rfl ?_
  refine M0 (q_ld1 rfl rfl rfl rfl rfl) rfl rfl ?_;refine M0 (q_sub rfl rfl rfl rfl (by omega)) rfl rfl ?_;refine M0 (q_assignC rfl rfl rfl) rfl rfl ?_;refine L_nil (T_n ?_)
  refine A_seq (A_seq (A_region ?_));refine M0 (q_moveC rfl rfl rfl) rfl rfl ?_;refine M0 (q_fldp rfl rfl rfl rfl (by decide)) rfl rfl ?_
  refine M0 (q_ld1 rfl rfl rfl rfl rfl) rfl rfl ?_;refine M0 (q_call0 rfl rfl (I_between (x.Now.Tick - x.Base.Tick) 0 x.Ahead) rfl) rfl rfl ?_;refine M0 (q_not rfl rfl rfl) rfl rfl ?_
  refine M0 (q_moveC rfl rfl rfl) rfl rfl ?_;refine M0 (Qt.grdF rfl rfl rfl .stop (fun hgrd => q_fldp rfl rfl rfl rfl (by decide))) rfl rfl ?_
  refine M0 (Qt.grdF rfl rfl rfl (.hit .stop) (fun hgrd => q_ld1 rfl rfl rfl rfl rfl)) rfl rfl ?_
  refine M0 (Qt.grdF rfl rfl rfl (.hit (.hit .stop)) (fun hgrd => q_len rfl rfl rfl)) rfl rfl ?_
  refine M0 (Qt.grdF rfl rfl rfl (.hit (.hit (.hit .stop))) (fun hgrd => q_moveC rfl rfl rfl)) rfl rfl ?_
  refine M0 (Qt.grdF rfl rfl rfl (.hit (.hit (.hit (.hit .stop)))) (fun hgrd => q_neq rfl rfl rfl rfl)) rfl rfl ?_;refine M0 (q_or rfl rfl rfl rfl) rfl rfl ?_
  refine M0 (q_moveC rfl rfl rfl) rfl rfl ?_;refine M0 (Qt.grdF rfl rfl rfl .stop (fun hgrd => q_fldp rfl rfl rfl rfl (by decide))) rfl rfl ?_
  refine M0 (Qt.grdF rfl rfl rfl (.hit .stop) (fun hgrd => q_ld1 rfl rfl rfl rfl rfl)) rfl rfl ?_
  refine M0 (Qt.grdF rfl rfl rfl (.hit (.hit .stop)) (fun hgrd => q_len rfl rfl rfl)) rfl rfl ?_
  refine M0 (Qt.grdF rfl rfl rfl (.hit (.hit (.hit .stop))) (fun hgrd => q_moveC rfl rfl rfl)) rfl rfl ?_
  refine M0 (Qt.grdF rfl rfl rfl (.hit (.hit (.hit (.hit .stop)))) (fun hgrd => q_neq rfl rfl rfl rfl)) rfl rfl ?_;refine M0 (q_or rfl rfl rfl rfl) rfl rfl ?_;refine L_nil ?_
  refine T_n ?_
  refine A_cond rfl (fun h5 => ?_) (fun h5 => ?_)
  · rw [hlu,hls] at h5
    rw [peer_F (no5 h5)]
    refine A_seq (A_region ?_);refine M0 (q_assignC rfl rfl rfl) rfl rfl ?_;refine L_nil (T_n (A_ret (T_r (F_r ?_))))
    exact E_tmp rfl rfl (W_end [] (by decide) rfl rfl rfl)
  rw [hlu,hls] at h5
  simp only [Bool.or_eq_false_iff,Bool.not_eq_false',decide_eq_false_iff_not,Classical.not_not,inR_iff] at h5
  obtain ⟨⟨q14,q15⟩,q16⟩ := h5
  refine AWP.pre (st' := (⟨_,[(1,.o (.c (.ptr 0 0))),(3,I (els x.Tracks).length)],[.box ((Enc.e x).map (V1.rd []))]⟩ : St)) ?_ (W_go [0] (by decide) rfl (rfl) (.cons rfl (.cons rfl (.nil))))
  refine A_skip (T_n (A_seq (A_seq (A_region ?_))));refine M0 (q_fldp rfl rfl rfl rfl (by decide)) rfl rfl ?_
  refine M0 (q_ld1 rfl rfl rfl rfl rfl) rfl rfl ?_;refine M0 (q_len rfl rfl rfl) rfl rfl ?_;refine M0 (q_moveC rfl rfl rfl) rfl rfl ?_;refine L_nil (T_n (A_block ?_))
  refine A_loop (fun m st => ∃ k : Nat,k + m = x.Used.length ∧ ((x.Used.take k).all (fun row => rowOk row x.Tracks.length) = true) ∧ st = (fun k : Nat => (⟨_,[(1,.o (.c (.ptr 0 0))),(3,I (els x.Tracks).length),(120,L x.Used),(121,I (els x.Used).length),(122,I k)],[.box ((Enc.e x).map (V1.rd []))]⟩ : St)) k) (x.Used.length) ⟨(fun k : Nat => (⟨_,[(1,.o (.c (.ptr 0 0))),(3,I (els x.Tracks).length),(120,L x.Used),(121,I (els x.Used).length),(122,I k)],[.box ((Enc.e x).map (V1.rd []))]⟩ : St)) 0,W_go [0] (by decide) rfl (rfl) (.cons rfl (.cons rfl (.cons rfl (.cons rfl (.cons rfl (.nil)))))),0,by omega,by simp,rfl⟩ ?_
  rintro m_A _ ⟨k,hk_A,hp_A,rfl⟩
  refine A_seq (A_region ?_);refine M0 (q_lss rfl rfl rfl rfl) rfl rfl ?_;refine L_nil (T_n (A_seq ?_))
  refine A_cond rfl (fun h => ?_) (fun h => ?_)
  · have h3 : k < x.Used.length := by have := of_decide_eq_true h; omega
    have hat := els_at h3
    have hc := I_rowOk x.Used[k] (els x.Tracks).length (gUs.2 _ (List.getElem_mem h3))
    rw [hlt] at hc
    cases ho : rowOk x.Used[k] x.Tracks.length with
    | false =>
      rw [ho,← hlt] at hc
      rw [peer_F (fun hp => by have := hp.2.2.2.2.2.1.1; rw [all_no h3 ho] at this; cases this)]
      refine A_skip (T_n (A_seq (A_block (A_seq (A_region ?_)))));refine M0 (q_at rfl rfl rfl rfl (by omega) (by assumption) rfl) rfl rfl ?_
      refine M0 (q_lr1 rfl rfl rfl rfl) rfl rfl ?_;refine M0 (q_assignC rfl rfl rfl) rfl rfl ?_;refine L_nil (T_n (A_seq (A_region ?_)))
      refine M0 (q_moveC rfl rfl rfl) rfl rfl ?_;refine M0 (q_moveC rfl rfl rfl) rfl rfl ?_;refine M0 (q_call0 rfl rfl (hc) rfl) rfl rfl ?_;refine M0 (q_not rfl rfl rfl) rfl rfl ?_
      refine L_nil (T_n ?_);refine A_ifT rfl ?_;refine A_seq (A_region ?_);refine M0 (q_assignC rfl rfl rfl) rfl rfl ?_;refine L_nil (T_n (A_ret (B_r ?_)))
      refine T_r (T_r (B_r (T_r (F_r ?_))))
      exact E_tmp rfl rfl (W_end [] (by decide) rfl rfl rfl)
    | true =>
      rw [ho,← hlt] at hc
      refine A_skip (T_n (A_seq (A_block (A_seq (A_region ?_)))));refine M0 (q_at rfl rfl rfl rfl (by omega) (by assumption) rfl) rfl rfl ?_
      refine M0 (q_lr1 rfl rfl rfl rfl) rfl rfl ?_;refine M0 (q_assignC rfl rfl rfl) rfl rfl ?_;refine L_nil (T_n (A_seq (A_region ?_)))
      refine M0 (q_moveC rfl rfl rfl) rfl rfl ?_;refine M0 (q_moveC rfl rfl rfl) rfl rfl ?_;refine M0 (q_call0 rfl rfl (hc) rfl) rfl rfl ?_;refine M0 (q_not rfl rfl rfl) rfl rfl ?_
      refine L_nil (T_n ?_);refine A_ifF rfl ?_;refine A_skip (B_n (T_n (A_region ?_)));refine M0 (q_add rfl rfl rfl rfl (by omega)) rfl rfl ?_
      refine M0 (q_moveC rfl rfl rfl) rfl rfl ?_;refine L_nil (T_n ?_)
      exact ⟨x.Used.length - (k + 1),by omega,(fun k : Nat => (⟨_,[(1,.o (.c (.ptr 0 0))),(3,I (els x.Tracks).length),(120,L x.Used),(121,I (els x.Used).length),(122,I k)],[.box ((Enc.e x).map (V1.rd []))]⟩ : St)) (k + 1),W_go [0] (by decide) rfl (rfl) (.cons rfl (.cons rfl (.cons rfl (.cons rfl (.cons rfl (.nil)))))),k + 1,by omega,all_next hp_A h3 ho,rfl⟩
  have h3 : ¬ ((k : Int) < (els x.Used).length) := of_decide_eq_false h
  have hall := all_end hp_A (by omega)
  refine A_exit (T_x (T_x (B_xs (T_n (A_seq (A_seq (A_region ?_)))))));refine M0 (q_fldp rfl rfl rfl rfl (by decide)) rfl rfl ?_
  refine M0 (q_ld1 rfl rfl rfl rfl rfl) rfl rfl ?_;refine M0 (q_len rfl rfl rfl) rfl rfl ?_;refine M0 (q_moveC rfl rfl rfl) rfl rfl ?_;refine L_nil (T_n (A_block ?_))
  refine A_loop (fun m st => ∃ j : Nat,j + m = x.Saves.length ∧ ((∀ i (h : i < x.Saves.length),i < j → x.Saves[i].Tick = x.Base.Tick + i)) ∧ st = (fun j : Nat => (⟨_,[(1,.o (.c (.ptr 0 0))),(3,I (els x.Tracks).length),(132,L x.Saves),(133,I (els x.Saves).length),(134,I j)],[.box ((Enc.e x).map (V1.rd []))]⟩ : St)) j) (x.Saves.length) ⟨(fun j : Nat => (⟨_,[(1,.o (.c (.ptr 0 0))),(3,I (els x.Tracks).length),(132,L x.Saves),(133,I (els x.Saves).length),(134,I j)],[.box ((Enc.e x).map (V1.rd []))]⟩ : St)) 0,W_go [0] (by decide) rfl (rfl) (.cons rfl (.cons rfl (.cons rfl (.cons rfl (.cons rfl (.nil)))))),0,by omega,fun i _ hi => absurd hi (Nat.not_lt_zero _),rfl⟩ ?_
  rintro m_D _ ⟨j,hk_D,hp_D,rfl⟩
  refine A_seq (A_region ?_);refine M0 (q_lss rfl rfl rfl rfl) rfl rfl ?_;refine L_nil (T_n (A_seq ?_))
  refine A_cond rfl (fun h => ?_) (fun h => ?_)
  · have h4 : j < x.Saves.length := by have := of_decide_eq_true h; omega
    have hat := els_at h4
    by_cases ho : x.Saves[j].Tick = x.Base.Tick + j
    · have hb : decide (x.Saves[j].Tick ≠ x.Base.Tick + j) = false := decide_eq_false (fun h => h ho)
      refine A_skip (T_n (A_seq (A_block (A_seq (A_region ?_)))));refine M0 (q_moveC rfl rfl rfl) rfl rfl ?_
      refine M0 (q_at rfl rfl rfl rfl (by omega) (by assumption) rfl) rfl rfl ?_;refine M0 (q_lrN rfl rfl rfl rfl rfl) rfl rfl ?_;refine M1 (q_alloc rfl rfl rfl) rfl rfl ?_
      refine M0 (q_assignC rfl rfl rfl) rfl rfl ?_;refine M_stN rfl rfl rfl rfl rfl rfl rfl rfl rfl ?_;refine L_nil (T_n (A_seq (A_region ?_)))
      refine M0 (q_fldp rfl rfl rfl rfl (by decide)) rfl rfl ?_;refine M0 (q_ld1 rfl rfl rfl rfl rfl) rfl rfl ?_;refine M0 (q_fldp rfl rfl rfl rfl (by decide)) rfl rfl ?_
      refine M0 (q_fldp rfl rfl rfl rfl (by decide)) rfl rfl ?_;refine M0 (q_ld1 rfl rfl rfl rfl rfl) rfl rfl ?_;refine M0 (q_moveC rfl rfl rfl) rfl rfl ?_
      refine M0 (q_add rfl rfl rfl rfl (by omega)) rfl rfl ?_;refine M0 (q_neqK rfl rfl rfl rfl (by assumption)) rfl rfl ?_;refine L_nil (T_n ?_);refine A_ifF rfl ?_;refine A_skip ?_
      refine B_n (T_n (A_region ?_));refine M0 (q_add rfl rfl rfl rfl (by omega)) rfl rfl ?_;refine M0 (q_moveC rfl rfl rfl) rfl rfl ?_;refine L_nil (T_n ?_)
      exact ⟨x.Saves.length - (j + 1),by omega,(fun j : Nat => (⟨_,[(1,.o (.c (.ptr 0 0))),(3,I (els x.Tracks).length),(132,L x.Saves),(133,I (els x.Saves).length),(134,I j)],[.box ((Enc.e x).map (V1.rd []))]⟩ : St)) (j + 1),W_go [0] (by decide) rfl (rfl) (.cons rfl (.cons rfl (.cons rfl (.cons rfl (.cons rfl (.nil)))))),j + 1,by omega,fun i hi hij => by by_cases e : i = j; subst e; exact ho; exact hp_D i hi (by omega),rfl⟩
    · have hb : decide (x.Saves[j].Tick ≠ x.Base.Tick + j) = true := decide_eq_true ho
      rw [peer_F (fun hp => ho (hp.2.2.2.2.2.1.2 j h4))]
      refine A_skip (T_n (A_seq (A_block (A_seq (A_region ?_)))));refine M0 (q_moveC rfl rfl rfl) rfl rfl ?_
      refine M0 (q_at rfl rfl rfl rfl (by omega) (by assumption) rfl) rfl rfl ?_;refine M0 (q_lrN rfl rfl rfl rfl rfl) rfl rfl ?_;refine M1 (q_alloc rfl rfl rfl) rfl rfl ?_
      refine M0 (q_assignC rfl rfl rfl) rfl rfl ?_;refine M_stN rfl rfl rfl rfl rfl rfl rfl rfl rfl ?_;refine L_nil (T_n (A_seq (A_region ?_)))
      refine M0 (q_fldp rfl rfl rfl rfl (by decide)) rfl rfl ?_;refine M0 (q_ld1 rfl rfl rfl rfl rfl) rfl rfl ?_;refine M0 (q_fldp rfl rfl rfl rfl (by decide)) rfl rfl ?_
      refine M0 (q_fldp rfl rfl rfl rfl (by decide)) rfl rfl ?_;refine M0 (q_ld1 rfl rfl rfl rfl rfl) rfl rfl ?_;refine M0 (q_moveC rfl rfl rfl) rfl rfl ?_
      refine M0 (q_add rfl rfl rfl rfl (by omega)) rfl rfl ?_;refine M0 (q_neqK rfl rfl rfl rfl (by assumption)) rfl rfl ?_;refine L_nil (T_n ?_);refine A_ifT rfl ?_;refine A_seq ?_
      refine A_region ?_;refine M0 (q_assignC rfl rfl rfl) rfl rfl ?_;refine L_nil (T_n (A_ret (B_r (T_r (T_r (B_r (T_r ?_)))))))
      refine F_r ?_
      exact E_tmp rfl rfl (W_end [] (by decide) rfl rfl rfl)
  have h4 : ¬ ((j : Int) < (els x.Saves).length) := of_decide_eq_false h
  have hme : x.Me.toNat < x.Tracks.length := by omega
  have hat := at_nat (xs := x.Tracks) hme
  have hti := els_len x.Tracks[x.Me.toNat].Inputs
  have hla := lenAt_is hme
  rw [← fin_eq ⟨q1,q2,q3,q4⟩ ⟨by omega,by omega,q7⟩ ⟨q8,q9,q10⟩ ⟨q11,q12,q13⟩ ⟨q14,q15,q16⟩ ⟨hall,fun i hi => hp_D i hi (by omega)⟩,← hlm]
  by_cases k1 : x.Base.Tick ≤ (knownTicks x.Tracks : Nat)
  · have hb1 : decide (x.Base.Tick ≤ ((knownTicks x.Tracks : Nat) : Int)) = true := decide_eq_true k1
    by_cases k2 : x.Now.Tick ≤ (lenAt x.Tracks x.Me.toNat : Nat)
    · have hb2 : decide (x.Now.Tick ≤ ((els x.Tracks[x.Me.toNat].Inputs).length : Int)) = true := decide_eq_true (by omega)
      rw [hb1,decide_eq_true k2]
      refine A_exit (T_x (T_x (B_xs (T_n (A_seq ?_)))))
      refine A_draw [[],[0],[0,1],[],[3],[3,4],[0,1,2,3,4,5],[0,1,2,3,4,5,6],[0,1,2,3,4,5,6,7],[0,1,2,3,4,5,6,7,8],[0,1,2,3,4,5,6,7],[0,1,2,3,4,5,6,7,10],[0,1,2,3,4,5,6,7,8,9,10,11],[0,1,2,3,4,5,6,7,8,9,10,11,12],[0,1,2,3,4,5,6,7,8,9,10,11,12,13],[0,1,2,3,4,5,6,7,8,9,10,11,12,13,14],[0,1,2,3,4,5,6,7],[0,1,2,3,4,5,6,7,16],[0,1,2,3,4,5,6,7,16,17],[0,1,2,3,4,5,6,7,8,9,10,11,12,13,14,15,16,17,18],[0,1,2,3,4,5,6,7,8,9,10,11,12,13,14,15,16,17,18,19],[0,1,2,3,4,5,6,7,8,9,10,11,12,13,14,15,16,17,18,19,20],[0,1,2,3,4,5,6,7,8,9,10,11,12,13,14,15,16,17,18,19,20,21],[0,1,2,3,4,5,6,7,8,9,10,11,12,13,14,15,16,17,18,19,20,21,22],[0,1,2,3,4,5,6,7,8,9,10,11,12,13,14,15,16,17,18,19,20,21,22,23],[0,1,2,3,4,5,6,7,8,9,10,11,12,13,14,15,16,17,18,19,20,21],[0,1,2,3,4,5,6,7,8,9,10,11,12,13,14,15,16,17,18,19,20,21,25],[0,1,2,3,4,5,6,7,8,9,10,11,12,13,14,15,16,17,18,19,20,21,25,26],[0,1,2,3,4,5,6,7,8,9,10,11,12,13,14,15,16,17,18,19,20,21,25,26,27],[0,1,2,3,4,5,6,7,8,9,10,11,12,13,14,15,16,17,18,19,20,21,22,23,24,25,26,27,28],[0,1,2,3,4,5,6,7,8,9,10,11,12,13,14,15,16,17,18,19,20,21,22,23,24,25,26,27,28,29],[0,1,2,3,4,5,6,7,8,9,10,11,12,13,14,15,16,17,18,19,20,21,22,23,24,25,26,27,28,29,30]] [[],[148],[148,149],[],[151],[151,152],[148,149,150,151,152,153],[148,149,150,151,152,153,154],[148,149,150,151,152,153,154,155],[148,149,150,151,152,153,154,155,156],[148,149,150,151,152,153,154,155],[148,149,150,151,152,153,154,155,158],[148,149,150,151,152,153,154,155,156,157,158,159],[148,149,150,151,152,153,154,155,156,157,158,159,160],[148,149,150,151,152,153,154,155,156,157,158,159,160,161],[148,149,150,151,152,153,154,155,156,157,158,159,160,161,162],[148,149,150,151,152,153,154,155],[148,149,150,151,152,153,154,155,164],[148,149,150,151,152,153,154,155,164,165],[148,149,150,151,152,153,154,155,156,157,158,159,160,161,162,163,164,165,166],[148,149,150,151,152,153,154,155,156,157,158,159,160,161,162,163,164,165,166,167],[148,149,150,151,152,153,154,155,156,157,158,159,160,161,162,163,164,165,166,167,168],[148,149,150,151,152,153,154,155,156,157,158,159,160,161,162,163,164,165,166,167,168,169],[148,149,150,151,152,153,154,155,156,157,158,159,160,161,162,163,164,165,166,167,168,169,170],[148,149,150,151,152,153,154,155,156,157,158,159,160,161,162,163,164,165,166,167,168,169,170,171],[148,149,150,151,152,153,154,155,156,157,158,159,160,161,162,163,164,165,166,167,168,169],[148,149,150,151,152,153,154,155,156,157,158,159,160,161,162,163,164,165,166,167,168,169,173],[148,149,150,151,152,153,154,155,156,157,158,159,160,161,162,163,164,165,166,167,168,169,173,174],[148,149,150,151,152,153,154,155,156,157,158,159,160,161,162,163,164,165,166,167,168,169,173,174,175],[148,149,150,151,152,153,154,155,156,157,158,159,160,161,162,163,164,165,166,167,168,169,170,171,172,173,174,175,176],[148,149,150,151,152,153,154,155,156,157,158,159,160,161,162,163,164,165,166,167,168,169,170,171,172,173,174,175,176,177],[148,149,150,151,152,153,154,155,156,157,158,159,160,161,162,163,164,165,166,167,168,169,170,171,172,173,174,175,176,177,178]] [[151,152,153],[151,152,153],[151,152,153],[148,149,150],[148,149,150],[148,149,150],[],[],[158,159,164,165,166],[158,159,164,165,166],[156,157,164,165,166],[156,157,164,165,166],[164,165,166],[164,165,166],[164,165,166],[164,165,166],[156,157,158,159,160,161,162,163],[156,157,158,159,160,161,162,163],[156,157,158,159,160,161,162,163],[],[],[],[173,174,175,176],[173,174,175,176],[173,174,175,176],[170,171,172],[170,171,172],[170,171,172],[170,171,172],[],[],[]] rfl ?_
      refine DR.step (q_fldp rfl rfl rfl rfl (by decide)) rfl rfl ?_;refine DR.step (q_fldp rfl rfl rfl rfl (by decide)) rfl rfl ?_;refine DR.step (q_ld1 rfl rfl rfl rfl rfl) rfl rfl ?_
      refine DR.step (q_fldp rfl rfl rfl rfl (by decide)) rfl rfl ?_;refine DR.step (q_ld1 rfl rfl rfl rfl rfl) rfl rfl ?_;refine DR.step (q_call0 rfl rfl (c6) rfl) rfl rfl ?_
      refine DR.step (q_leqK rfl rfl rfl rfl (by assumption)) rfl rfl ?_;refine DR.step (q_moveC rfl rfl rfl) rfl rfl ?_
      refine DR.step (Qt.yes rfl rfl rfl (q_fldp rfl rfl rfl rfl (by decide))) rfl rfl ?_;refine DR.step (Qt.yes rfl rfl rfl (q_ld1 rfl rfl rfl rfl rfl)) rfl rfl ?_
      refine DR.step (Qt.yes rfl rfl rfl (q_fldp rfl rfl rfl rfl (by decide))) rfl rfl ?_;refine DR.step (Qt.yes rfl rfl rfl (q_ld1 rfl rfl rfl rfl rfl)) rfl rfl ?_
      refine DR.step (Qt.yes rfl rfl rfl (q_at rfl rfl rfl rfl (by omega) (by assumption) rfl)) rfl rfl ?_
      refine DR.step (Qt.yes rfl rfl rfl (q_fldr rfl rfl rfl rfl (by decide))) rfl rfl ?_;refine DR.step (Qt.yes rfl rfl rfl (q_lr1 rfl rfl rfl rfl)) rfl rfl ?_
      refine DR.step (Qt.yes rfl rfl rfl (q_len rfl rfl rfl)) rfl rfl ?_;refine DR.step (Qt.yes rfl rfl rfl (q_fldp rfl rfl rfl rfl (by decide))) rfl rfl ?_
      refine DR.step (Qt.yes rfl rfl rfl (q_fldp rfl rfl rfl rfl (by decide))) rfl rfl ?_;refine DR.step (Qt.yes rfl rfl rfl (q_ld1 rfl rfl rfl rfl rfl)) rfl rfl ?_
      refine DR.step (Qt.yes rfl rfl rfl (q_geqK rfl rfl rfl rfl (by assumption))) rfl rfl ?_;refine DR.step (q_pickT rfl rfl rfl rfl) rfl rfl ?_
      refine DR.step (q_moveC rfl rfl rfl) rfl rfl ?_;refine DR.step (Qt.yes rfl rfl rfl (q_fldp rfl rfl rfl rfl (by decide))) rfl rfl ?_
      refine DR.step (Qt.yes rfl rfl rfl (q_ld1 rfl rfl rfl rfl rfl)) rfl rfl ?_;refine DR.step (Qt.yes rfl rfl rfl (q_len rfl rfl rfl)) rfl rfl ?_
      refine DR.step (Qt.yes rfl rfl rfl (q_fldp rfl rfl rfl rfl (by decide))) rfl rfl ?_;refine DR.step (Qt.yes rfl rfl rfl (q_fldp rfl rfl rfl rfl (by decide))) rfl rfl ?_
      refine DR.step (Qt.yes rfl rfl rfl (q_ld1 rfl rfl rfl rfl rfl)) rfl rfl ?_;refine DR.step (Qt.yes rfl rfl rfl (q_add rfl rfl rfl rfl (by omega))) rfl rfl ?_
      refine DR.step (Qt.yes rfl rfl rfl (q_eql rfl rfl rfl rfl)) rfl rfl ?_;refine DR.step (q_pickT rfl rfl rfl rfl) rfl rfl ?_;refine DR.step (q_assignC rfl rfl rfl) rfl rfl ?_
      refine DR.stop (by kernel_rfl) (by kernel_rfl) ?_
      refine L_nil (T_n (A_ret (F_r ?_)))
      exact E_tmp rfl rfl (W_end [] (by decide) rfl rfl rfl)
    · have hb2 : decide (x.Now.Tick ≤ ((els x.Tracks[x.Me.toNat].Inputs).length : Int)) = false := decide_eq_false (by omega)
      rw [hb1,decide_eq_false k2]
      refine A_exit (T_x (T_x (B_xs (T_n (A_seq ?_)))))
      refine A_draw [[],[0],[0,1],[],[3],[3,4],[0,1,2,3,4,5],[0,1,2,3,4,5,6],[0,1,2,3,4,5,6,7],[0,1,2,3,4,5,6,7,8],[0,1,2,3,4,5,6,7],[0,1,2,3,4,5,6,7,10],[0,1,2,3,4,5,6,7,8,9,10,11],[0,1,2,3,4,5,6,7,8,9,10,11,12],[0,1,2,3,4,5,6,7,8,9,10,11,12,13],[0,1,2,3,4,5,6,7,8,9,10,11,12,13,14],[0,1,2,3,4,5,6,7],[0,1,2,3,4,5,6,7,16],[0,1,2,3,4,5,6,7,16,17],[0,1,2,3,4,5,6,7,8,9,10,11,12,13,14,15,16,17,18],[0,1,2,3,4,5,6,7,8,9,10,11,12,13,14,15,16,17,18,19],[0,1,2,3,4,5,6,7,8,9,10,11,12,13,14,15,16,17,18,19,20],[0,1,2,3,4,5,6,7,8,9,10,11,12,13,14,15,16,17,18,19,20,21],[0,1,2,3,4,5,6,7,8,9,10,11,12,13,14,15,16,17,18,19,20,21,22],[0,1,2,3,4,5,6,7,8,9,10,11,12,13,14,15,16,17,18,19,20,21,22,23],[0,1,2,3,4,5,6,7,8,9,10,11,12,13,14,15,16,17,18,19,20,21],[0,1,2,3,4,5,6,7,8,9,10,11,12,13,14,15,16,17,18,19,20,21,25],[0,1,2,3,4,5,6,7,8,9,10,11,12,13,14,15,16,17,18,19,20,21,25,26],[0,1,2,3,4,5,6,7,8,9,10,11,12,13,14,15,16,17,18,19,20,21,25,26,27],[0,1,2,3,4,5,6,7,8,9,10,11,12,13,14,15,16,17,18,19,20,21,22,23,24,25,26,27,28],[0,1,2,3,4,5,6,7,8,9,10,11,12,13,14,15,16,17,18,19,20,21,22,23,24,25,26,27,28,29],[0,1,2,3,4,5,6,7,8,9,10,11,12,13,14,15,16,17,18,19,20,21,22,23,24,25,26,27,28,29,30]] [[],[148],[148,149],[],[151],[151,152],[148,149,150,151,152,153],[148,149,150,151,152,153,154],[148,149,150,151,152,153,154,155],[148,149,150,151,152,153,154,155,156],[148,149,150,151,152,153,154,155],[148,149,150,151,152,153,154,155,158],[148,149,150,151,152,153,154,155,156,157,158,159],[148,149,150,151,152,153,154,155,156,157,158,159,160],[148,149,150,151,152,153,154,155,156,157,158,159,160,161],[148,149,150,151,152,153,154,155,156,157,158,159,160,161,162],[148,149,150,151,152,153,154,155],[148,149,150,151,152,153,154,155,164],[148,149,150,151,152,153,154,155,164,165],[148,149,150,151,152,153,154,155,156,157,158,159,160,161,162,163,164,165,166],[148,149,150,151,152,153,154,155,156,157,158,159,160,161,162,163,164,165,166,167],[148,149,150,151,152,153,154,155,156,157,158,159,160,161,162,163,164,165,166,167,168],[148,149,150,151,152,153,154,155,156,157,158,159,160,161,162,163,164,165,166,167,168,169],[148,149,150,151,152,153,154,155,156,157,158,159,160,161,162,163,164,165,166,167,168,169,170],[148,149,150,151,152,153,154,155,156,157,158,159,160,161,162,163,164,165,166,167,168,169,170,171],[148,149,150,151,152,153,154,155,156,157,158,159,160,161,162,163,164,165,166,167,168,169],[148,149,150,151,152,153,154,155,156,157,158,159,160,161,162,163,164,165,166,167,168,169,173],[148,149,150,151,152,153,154,155,156,157,158,159,160,161,162,163,164,165,166,167,168,169,173,174],[148,149,150,151,152,153,154,155,156,157,158,159,160,161,162,163,164,165,166,167,168,169,173,174,175],[148,149,150,151,152,153,154,155,156,157,158,159,160,161,162,163,164,165,166,167,168,169,170,171,172,173,174,175,176],[148,149,150,151,152,153,154,155,156,157,158,159,160,161,162,163,164,165,166,167,168,169,170,171,172,173,174,175,176,177],[148,149,150,151,152,153,154,155,156,157,158,159,160,161,162,163,164,165,166,167,168,169,170,171,172,173,174,175,176,177,178]] [[151,152,153],[151,152,153],[151,152,153],[148,149,150],[148,149,150],[148,149,150],[],[],[158,159,164,165,166],[158,159,164,165,166],[156,157,164,165,166],[156,157,164,165,166],[164,165,166],[164,165,166],[164,165,166],[164,165,166],[156,157,158,159,160,161,162,163],[156,157,158,159,160,161,162,163],[156,157,158,159,160,161,162,163],[],[],[],[173,174,175,176],[173,174,175,176],[173,174,175,176],[170,171,172],[170,171,172],[170,171,172],[170,171,172],[],[],[]] rfl ?_
      refine DR.step (q_fldp rfl rfl rfl rfl (by decide)) rfl rfl ?_;refine DR.step (q_fldp rfl rfl rfl rfl (by decide)) rfl rfl ?_;refine DR.step (q_ld1 rfl rfl rfl rfl rfl) rfl rfl ?_
      refine DR.step (q_fldp rfl rfl rfl rfl (by decide)) rfl rfl ?_;refine DR.step (q_ld1 rfl rfl rfl rfl rfl) rfl rfl ?_;refine DR.step (q_call0 rfl rfl (c6) rfl) rfl rfl ?_
      refine DR.step (q_leqK rfl rfl rfl rfl (by assumption)) rfl rfl ?_;refine DR.step (q_moveC rfl rfl rfl) rfl rfl ?_
      refine DR.step (Qt.yes rfl rfl rfl (q_fldp rfl rfl rfl rfl (by decide))) rfl rfl ?_;refine DR.step (Qt.yes rfl rfl rfl (q_ld1 rfl rfl rfl rfl rfl)) rfl rfl ?_
      refine DR.step (Qt.yes rfl rfl rfl (q_fldp rfl rfl rfl rfl (by decide))) rfl rfl ?_;refine DR.step (Qt.yes rfl rfl rfl (q_ld1 rfl rfl rfl rfl rfl)) rfl rfl ?_
      refine DR.step (Qt.yes rfl rfl rfl (q_at rfl rfl rfl rfl (by omega) (by assumption) rfl)) rfl rfl ?_
      refine DR.step (Qt.yes rfl rfl rfl (q_fldr rfl rfl rfl rfl (by decide))) rfl rfl ?_;refine DR.step (Qt.yes rfl rfl rfl (q_lr1 rfl rfl rfl rfl)) rfl rfl ?_
      refine DR.step (Qt.yes rfl rfl rfl (q_len rfl rfl rfl)) rfl rfl ?_;refine DR.step (Qt.yes rfl rfl rfl (q_fldp rfl rfl rfl rfl (by decide))) rfl rfl ?_
      refine DR.step (Qt.yes rfl rfl rfl (q_fldp rfl rfl rfl rfl (by decide))) rfl rfl ?_;refine DR.step (Qt.yes rfl rfl rfl (q_ld1 rfl rfl rfl rfl rfl)) rfl rfl ?_
      refine DR.step (Qt.yes rfl rfl rfl (q_geqK rfl rfl rfl rfl (by assumption))) rfl rfl ?_;refine DR.step (q_pickT rfl rfl rfl rfl) rfl rfl ?_
      refine DR.step (q_moveC rfl rfl rfl) rfl rfl ?_;refine DR.step (Qt.no rfl rfl rfl rfl) rfl rfl ?_;refine DR.step (Qt.no rfl rfl rfl rfl) rfl rfl ?_
      refine DR.step (Qt.no rfl rfl rfl rfl) rfl rfl ?_;refine DR.step (Qt.no rfl rfl rfl rfl) rfl rfl ?_;refine DR.step (Qt.no rfl rfl rfl rfl) rfl rfl ?_
      refine DR.step (Qt.no rfl rfl rfl rfl) rfl rfl ?_;refine DR.step (Qt.no rfl rfl rfl rfl) rfl rfl ?_;refine DR.step (Qt.no rfl rfl rfl rfl) rfl rfl ?_
      refine DR.step (q_pickF rfl rfl rfl rfl) rfl rfl ?_;refine DR.step (q_assignC rfl rfl rfl) rfl rfl ?_;refine DR.stop (by kernel_rfl) (by kernel_rfl) ?_
      refine L_nil (T_n (A_ret (F_r ?_)))
      exact E_tmp rfl rfl (W_end [] (by decide) rfl rfl rfl)
  · have hb1 : decide (x.Base.Tick ≤ ((knownTicks x.Tracks : Nat) : Int)) = false := decide_eq_false k1
    rw [hb1]
    refine A_exit (T_x (T_x (B_xs (T_n (A_seq ?_)))))
    refine A_draw [[],[0],[0,1],[],[3],[3,4],[0,1,2,3,4,5],[0,1,2,3,4,5,6],[0,1,2,3,4,5,6,7],[0,1,2,3,4,5,6,7,8],[0,1,2,3,4,5,6,7],[0,1,2,3,4,5,6,7,10],[0,1,2,3,4,5,6,7,8,9,10,11],[0,1,2,3,4,5,6,7,8,9,10,11,12],[0,1,2,3,4,5,6,7,8,9,10,11,12,13],[0,1,2,3,4,5,6,7,8,9,10,11,12,13,14],[0,1,2,3,4,5,6,7],[0,1,2,3,4,5,6,7,16],[0,1,2,3,4,5,6,7,16,17],[0,1,2,3,4,5,6,7,8,9,10,11,12,13,14,15,16,17,18],[0,1,2,3,4,5,6,7,8,9,10,11,12,13,14,15,16,17,18,19],[0,1,2,3,4,5,6,7,8,9,10,11,12,13,14,15,16,17,18,19,20],[0,1,2,3,4,5,6,7,8,9,10,11,12,13,14,15,16,17,18,19,20,21],[0,1,2,3,4,5,6,7,8,9,10,11,12,13,14,15,16,17,18,19,20,21,22],[0,1,2,3,4,5,6,7,8,9,10,11,12,13,14,15,16,17,18,19,20,21,22,23],[0,1,2,3,4,5,6,7,8,9,10,11,12,13,14,15,16,17,18,19,20,21],[0,1,2,3,4,5,6,7,8,9,10,11,12,13,14,15,16,17,18,19,20,21,25],[0,1,2,3,4,5,6,7,8,9,10,11,12,13,14,15,16,17,18,19,20,21,25,26],[0,1,2,3,4,5,6,7,8,9,10,11,12,13,14,15,16,17,18,19,20,21,25,26,27],[0,1,2,3,4,5,6,7,8,9,10,11,12,13,14,15,16,17,18,19,20,21,22,23,24,25,26,27,28],[0,1,2,3,4,5,6,7,8,9,10,11,12,13,14,15,16,17,18,19,20,21,22,23,24,25,26,27,28,29],[0,1,2,3,4,5,6,7,8,9,10,11,12,13,14,15,16,17,18,19,20,21,22,23,24,25,26,27,28,29,30]] [[],[148],[148,149],[],[151],[151,152],[148,149,150,151,152,153],[148,149,150,151,152,153,154],[148,149,150,151,152,153,154,155],[148,149,150,151,152,153,154,155,156],[148,149,150,151,152,153,154,155],[148,149,150,151,152,153,154,155,158],[148,149,150,151,152,153,154,155,156,157,158,159],[148,149,150,151,152,153,154,155,156,157,158,159,160],[148,149,150,151,152,153,154,155,156,157,158,159,160,161],[148,149,150,151,152,153,154,155,156,157,158,159,160,161,162],[148,149,150,151,152,153,154,155],[148,149,150,151,152,153,154,155,164],[148,149,150,151,152,153,154,155,164,165],[148,149,150,151,152,153,154,155,156,157,158,159,160,161,162,163,164,165,166],[148,149,150,151,152,153,154,155,156,157,158,159,160,161,162,163,164,165,166,167],[148,149,150,151,152,153,154,155,156,157,158,159,160,161,162,163,164,165,166,167,168],[148,149,150,151,152,153,154,155,156,157,158,159,160,161,162,163,164,165,166,167,168,169],[148,149,150,151,152,153,154,155,156,157,158,159,160,161,162,163,164,165,166,167,168,169,170],[148,149,150,151,152,153,154,155,156,157,158,159,160,161,162,163,164,165,166,167,168,169,170,171],[148,149,150,151,152,153,154,155,156,157,158,159,160,161,162,163,164,165,166,167,168,169],[148,149,150,151,152,153,154,155,156,157,158,159,160,161,162,163,164,165,166,167,168,169,173],[148,149,150,151,152,153,154,155,156,157,158,159,160,161,162,163,164,165,166,167,168,169,173,174],[148,149,150,151,152,153,154,155,156,157,158,159,160,161,162,163,164,165,166,167,168,169,173,174,175],[148,149,150,151,152,153,154,155,156,157,158,159,160,161,162,163,164,165,166,167,168,169,170,171,172,173,174,175,176],[148,149,150,151,152,153,154,155,156,157,158,159,160,161,162,163,164,165,166,167,168,169,170,171,172,173,174,175,176,177],[148,149,150,151,152,153,154,155,156,157,158,159,160,161,162,163,164,165,166,167,168,169,170,171,172,173,174,175,176,177,178]] [[151,152,153],[151,152,153],[151,152,153],[148,149,150],[148,149,150],[148,149,150],[],[],[158,159,164,165,166],[158,159,164,165,166],[156,157,164,165,166],[156,157,164,165,166],[164,165,166],[164,165,166],[164,165,166],[164,165,166],[156,157,158,159,160,161,162,163],[156,157,158,159,160,161,162,163],[156,157,158,159,160,161,162,163],[],[],[],[173,174,175,176],[173,174,175,176],[173,174,175,176],[170,171,172],[170,171,172],[170,171,172],[170,171,172],[],[],[]] rfl ?_
    refine DR.step (q_fldp rfl rfl rfl rfl (by decide)) rfl rfl ?_;refine DR.step (q_fldp rfl rfl rfl rfl (by decide)) rfl rfl ?_;refine DR.step (q_ld1 rfl rfl rfl rfl rfl) rfl rfl ?_
    refine DR.step (q_fldp rfl rfl rfl rfl (by decide)) rfl rfl ?_;refine DR.step (q_ld1 rfl rfl rfl rfl rfl) rfl rfl ?_;refine DR.step (q_call0 rfl rfl (c6) rfl) rfl rfl ?_
    refine DR.step (q_leqK rfl rfl rfl rfl (by assumption)) rfl rfl ?_;refine DR.step (q_moveC rfl rfl rfl) rfl rfl ?_;refine DR.step (Qt.no rfl rfl rfl rfl) rfl rfl ?_
    refine DR.step (Qt.no rfl rfl rfl rfl) rfl rfl ?_;refine DR.step (Qt.no rfl rfl rfl rfl) rfl rfl ?_;refine DR.step (Qt.no rfl rfl rfl rfl) rfl rfl ?_
    refine DR.step (Qt.no rfl rfl rfl rfl) rfl rfl ?_;refine DR.step (Qt.no rfl rfl rfl rfl) rfl rfl ?_;refine DR.step (Qt.no rfl rfl rfl rfl) rfl rfl ?_
    refine DR.step (Qt.no rfl rfl rfl rfl) rfl rfl ?_;refine DR.step (Qt.no rfl rfl rfl rfl) rfl rfl ?_;refine DR.step (Qt.no rfl rfl rfl rfl) rfl rfl ?_
    refine DR.step (Qt.no rfl rfl rfl rfl) rfl rfl ?_;refine DR.step (Qt.no rfl rfl rfl rfl) rfl rfl ?_;refine DR.step (q_pickF rfl rfl rfl rfl) rfl rfl ?_
    refine DR.step (q_moveC rfl rfl rfl) rfl rfl ?_;refine DR.step (Qt.no rfl rfl rfl rfl) rfl rfl ?_;refine DR.step (Qt.no rfl rfl rfl rfl) rfl rfl ?_
    refine DR.step (Qt.no rfl rfl rfl rfl) rfl rfl ?_;refine DR.step (Qt.no rfl rfl rfl rfl) rfl rfl ?_;refine DR.step (Qt.no rfl rfl rfl rfl) rfl rfl ?_
    refine DR.step (Qt.no rfl rfl rfl rfl) rfl rfl ?_;refine DR.step (Qt.no rfl rfl rfl rfl) rfl rfl ?_;refine DR.step (Qt.no rfl rfl rfl rfl) rfl rfl ?_
    refine DR.step (q_pickF rfl rfl rfl rfl) rfl rfl ?_;refine DR.step (q_assignC rfl rfl rfl) rfl rfl ?_;refine DR.stop (by kernel_rfl) (by kernel_rfl) ?_
    refine L_nil (T_n (A_ret (F_r ?_)))
    exact E_tmp rfl rfl (W_end [] (by decide) rfl rfl rfl)
end Go.Proofs.YtbpebmolbdplmaaGreat
end

section
set_option linter.unusedSimpArgs false
set_option linter.unusedVariables false
set_option maxRecDepth 8000
namespace Go.Proofs.YtbpebmolbdplmaaGreat
open Go.RowKit

def flightOk (f : TFlight) : Bool := inR f.At 0 1100000 && inR (f.Data.size : Int) 1 20000
def WireP (w : TWire) : Prop :=
  (inR w.Seed 0 65535 = true ∧ inR w.Delay 0 12 = true ∧ inR w.Jitter 0 12 = true) ∧
  (inR w.Loss 0 100 = true ∧ inR w.Copies 0 100 = true ∧ inR w.Damage 0 100 = true) ∧
  (inR w.Now 0 1000000 = true ∧ inR w.Sent 0 1000000 = true ∧ inR w.Lost 0 1000000 = true) ∧
  w.Flights.length ≤ 200 ∧ w.Flights.all flightOk = true
instance (w : TWire) : Decidable (WireP w) := by unfold WireP; infer_instance
def wireOk (w : TWire) : Bool := decide (WireP w)
def paceOk (q : TPace) : Bool := (((inR q.Newest 0 1000001 && inR q.Their 0 1000001) && inR q.At 0 1000001) && inR q.Trip 0 1000001) && inR q.Samples 0 1000001
noncomputable def peerIn (m : TMatch) (i : Nat) (p : TPeer) : Bool :=
  ((peerOk p && decide (p.Me = (i : Int))) && decide ((p.Tracks.length : Int) = (m.Scripts.length : Int))) && ((decide (p.Base.Level = m.Level) && decide (p.Seed = m.Seed)) && decide (p.Delay = m.Delay))
def PeersP (m : TMatch) : Prop := m.Peers.length = m.Scripts.length ∧ ∀ (i : Nat) p,m.Peers[i]? = some p → peerIn m i p = true
def LinkLen (m : TMatch) (i : Nat) : Prop := ∀ ws qs ks,m.Wires[i]? = some ws → m.Paces[i]? = some qs → m.Acks[i]? = some ks → ws.length = m.Peers.length ∧ qs.length = m.Peers.length ∧ ks.length = m.Peers.length
def LinkAt (m : TMatch) (i j : Nat) : Prop := ∀ ws qs ks p w q a,m.Wires[i]? = some ws → m.Paces[i]? = some qs → m.Acks[i]? = some ks → m.Peers[i]? = some p → ws[j]? = some w → qs[j]? = some q → ks[j]? = some a → wireOk w = true ∧ paceOk q = true ∧ inR a 0 (lenAt p.Tracks i : Nat) = true
def LinksP (m : TMatch) : Prop :=
  (m.Wires.length = m.Peers.length ∧ m.Paces.length = m.Peers.length ∧ m.Acks.length = m.Peers.length) ∧
  ∀ i,i < m.Peers.length → LinkLen m i ∧ ∀ j : Nat,j < m.Peers.length → LinkAt m i j
noncomputable def watcherIn (m : TMatch) (s : TSpectator) (l : TWire) : Bool :=
  (wireOk l && worldOk s.World) && (decide (s.World.Level = m.Level) && decide ((s.World.Scores.length : Int) = (m.Scripts.length : Int)))
def WatchersP (m : TMatch) : Prop := (m.Watchers.length ≤ 3 ∧ m.Lines.length = m.Watchers.length) ∧ ∀ (k : Nat) s l,m.Watchers[k]? = some s → m.Lines[k]? = some l → watcherIn m s l = true
def HeadP (m : TMatch) : Prop := levelOk m.Level = true ∧ inR m.Seed 0 65535 = true ∧ inR m.Delay 0 5 = true ∧ inR m.Clock 0 1000 = true ∧ inR m.Bad 0 1000000 = true
def MatchP (m : TMatch) : Prop := HeadP m ∧ (1 ≤ m.Scripts.length ∧ m.Scripts.length ≤ 4) ∧ m.Scripts.all scriptOk = true ∧ PeersP m ∧ LinksP m ∧ WatchersP m
noncomputable def peersM (m : TMatch) : Bool := @decide (PeersP m) (Classical.propDecidable _)
noncomputable def linksM (m : TMatch) : Bool := @decide (LinksP m) (Classical.propDecidable _)
noncomputable def watchersM (m : TMatch) : Bool := @decide (WatchersP m) (Classical.propDecidable _)
noncomputable def matchOk (m : TMatch) : Bool := @decide (MatchP m) (Classical.propDecidable _)
theorem dT {P : Prop} (h : P) : @decide P (Classical.propDecidable _) = true := @decide_eq_true _ (Classical.propDecidable _) h
theorem dF {P : Prop} (h : ¬ P) : @decide P (Classical.propDecidable _) = false := @decide_eq_false _ (Classical.propDecidable _) h
theorem dS {P : Prop} (h : @decide P (Classical.propDecidable _) = true) : P := @of_decide_eq_true _ (Classical.propDecidable _) h
end Go.Proofs.YtbpebmolbdplmaaGreat
end

section
set_option linter.unusedSimpArgs false
set_option linter.unusedVariables false
set_option maxRecDepth 8000
namespace Go.Proofs.YtbpebmolbdplmaaGreat
open Go.RowKit

set_option maxHeartbeats 8000000 in
theorem I_PaceOk (q : TPace) : Con Tryz.prog 75 [] [ag q] [] (B (paceOk q)) := by
  refine Con.of Tryz.func75 rfl Tryz.ntmps75 rfl (fun E => ?_)
  refine A_seq (A_region ?_);refine M1 (q_boxN rfl rfl rfl rfl) rfl rfl ?_;refine M0 (q_assignC rfl rfl rfl) rfl rfl ?_;refine L_nil (T_n (A_seq ?_))
  refine A_region ?_;refine M0 (q_fldp rfl rfl rfl rfl (by decide)) rfl rfl ?_;refine M0 (q_ld1 rfl rfl rfl rfl rfl) rfl rfl ?_
  refine M0 (q_call0 rfl rfl (I_between q.Newest 0 1000001) rfl) rfl rfl ?_;refine M0 (q_moveC rfl rfl rfl) rfl rfl ?_
  refine M0 (Qt.grdT rfl rfl rfl .stop (fun hgrd => q_fldp rfl rfl rfl rfl (by decide))) rfl rfl ?_
  refine M0 (Qt.grdT rfl rfl rfl (.hit .stop) (fun hgrd => q_ld1 rfl rfl rfl rfl rfl)) rfl rfl ?_
  refine M0 (Qt.grdT rfl rfl rfl (.hit (.hit .stop)) (fun hgrd => q_call0 rfl rfl (I_between q.Their 0 1000001) rfl)) rfl rfl ?_;refine M0 (q_and rfl rfl rfl rfl) rfl rfl ?_
  refine M0 (q_moveC rfl rfl rfl) rfl rfl ?_;refine M0 (Qt.grdT rfl rfl rfl .stop (fun hgrd => q_fldp rfl rfl rfl rfl (by decide))) rfl rfl ?_
  refine M0 (Qt.grdT rfl rfl rfl (.hit .stop) (fun hgrd => q_ld1 rfl rfl rfl rfl rfl)) rfl rfl ?_
  refine M0 (Qt.grdT rfl rfl rfl (.hit (.hit .stop)) (fun hgrd => q_call0 rfl rfl (I_between q.At 0 1000001) rfl)) rfl rfl ?_;refine M0 (q_and rfl rfl rfl rfl) rfl rfl ?_
  refine M0 (q_moveC rfl rfl rfl) rfl rfl ?_;refine M0 (Qt.grdT rfl rfl rfl .stop (fun hgrd => q_fldp rfl rfl rfl rfl (by decide))) rfl rfl ?_
  refine M0 (Qt.grdT rfl rfl rfl (.hit .stop) (fun hgrd => q_ld1 rfl rfl rfl rfl rfl)) rfl rfl ?_
  refine M0 (Qt.grdT rfl rfl rfl (.hit (.hit .stop)) (fun hgrd => q_call0 rfl rfl (I_between q.Trip 0 1000001) rfl)) rfl rfl ?_;refine M0 (q_and rfl rfl rfl rfl) rfl rfl ?_
  refine M0 (q_moveC rfl rfl rfl) rfl rfl ?_;refine M0 (Qt.grdT rfl rfl rfl .stop (fun hgrd => q_fldp rfl rfl rfl rfl (by decide))) rfl rfl ?_
  refine M0 (Qt.grdT rfl rfl rfl (.hit .stop) (fun hgrd => q_ld1 rfl rfl rfl rfl rfl)) rfl rfl ?_
  refine M0 (Qt.grdT rfl rfl rfl (.hit (.hit .stop)) (fun hgrd => q_call0 rfl rfl (I_between q.Samples 0 1000001) rfl)) rfl rfl ?_;refine M0 (q_and rfl rfl rfl rfl) rfl rfl ?_
  refine M0 (q_assignC rfl rfl rfl) rfl rfl ?_;refine L_nil (T_n (A_ret (F_r ?_)))
  exact E_tmp rfl rfl (W_end [] (by decide) rfl rfl rfl)
set_option maxHeartbeats 8000000 in
theorem S_PaceOk (q : TPace) : Con Tryz.prog 63 [] [ag q] [] (B (paceOk q)) := by
  refine Con.of Tryz.func63 rfl Tryz.ntmps63 rfl (fun E => ?_)
  refine A_seq (A_region ?_);refine M1 (q_boxN rfl rfl rfl rfl) rfl rfl ?_;refine M0 (q_assignC rfl rfl rfl) rfl rfl ?_;refine L_nil (T_n (A_seq ?_))
  refine A_region ?_;refine M0 (q_fldp rfl rfl rfl rfl (by decide)) rfl rfl ?_;refine M0 (q_ld1 rfl rfl rfl rfl rfl) rfl rfl ?_
  refine M0 (q_call0 rfl rfl (S_in q.Newest 0 1000001) rfl) rfl rfl ?_;refine M0 (q_moveC rfl rfl rfl) rfl rfl ?_
  refine M0 (Qt.grdT rfl rfl rfl .stop (fun hgrd => q_fldp rfl rfl rfl rfl (by decide))) rfl rfl ?_
  refine M0 (Qt.grdT rfl rfl rfl (.hit .stop) (fun hgrd => q_ld1 rfl rfl rfl rfl rfl)) rfl rfl ?_
  refine M0 (Qt.grdT rfl rfl rfl (.hit (.hit .stop)) (fun hgrd => q_call0 rfl rfl (S_in q.Their 0 1000001) rfl)) rfl rfl ?_;refine M0 (q_and rfl rfl rfl rfl) rfl rfl ?_
  refine M0 (q_moveC rfl rfl rfl) rfl rfl ?_;refine M0 (Qt.grdT rfl rfl rfl .stop (fun hgrd => q_fldp rfl rfl rfl rfl (by decide))) rfl rfl ?_
  refine M0 (Qt.grdT rfl rfl rfl (.hit .stop) (fun hgrd => q_ld1 rfl rfl rfl rfl rfl)) rfl rfl ?_
  refine M0 (Qt.grdT rfl rfl rfl (.hit (.hit .stop)) (fun hgrd => q_call0 rfl rfl (S_in q.At 0 1000001) rfl)) rfl rfl ?_;refine M0 (q_and rfl rfl rfl rfl) rfl rfl ?_
  refine M0 (q_moveC rfl rfl rfl) rfl rfl ?_;refine M0 (Qt.grdT rfl rfl rfl .stop (fun hgrd => q_fldp rfl rfl rfl rfl (by decide))) rfl rfl ?_
  refine M0 (Qt.grdT rfl rfl rfl (.hit .stop) (fun hgrd => q_ld1 rfl rfl rfl rfl rfl)) rfl rfl ?_
  refine M0 (Qt.grdT rfl rfl rfl (.hit (.hit .stop)) (fun hgrd => q_call0 rfl rfl (S_in q.Trip 0 1000001) rfl)) rfl rfl ?_;refine M0 (q_and rfl rfl rfl rfl) rfl rfl ?_
  refine M0 (q_moveC rfl rfl rfl) rfl rfl ?_;refine M0 (Qt.grdT rfl rfl rfl .stop (fun hgrd => q_fldp rfl rfl rfl rfl (by decide))) rfl rfl ?_
  refine M0 (Qt.grdT rfl rfl rfl (.hit .stop) (fun hgrd => q_ld1 rfl rfl rfl rfl rfl)) rfl rfl ?_
  refine M0 (Qt.grdT rfl rfl rfl (.hit (.hit .stop)) (fun hgrd => q_call0 rfl rfl (S_in q.Samples 0 1000001) rfl)) rfl rfl ?_;refine M0 (q_and rfl rfl rfl rfl) rfl rfl ?_
  refine M0 (q_assignC rfl rfl rfl) rfl rfl ?_;refine L_nil (T_n (A_ret (F_r ?_)))
  exact E_tmp rfl rfl (W_end [] (by decide) rfl rfl rfl)
section
variable {w : TWire}
theorem wno1 (h : ((!inR w.Seed 0 65535 || !inR w.Delay 0 12) || !inR w.Jitter 0 12) = true) : wireOk w = false := decide_eq_false fun ⟨⟨a,b,c⟩,_⟩ => by rw [a,b,c] at h; exact absurd h (by decide)
theorem wno2 (h : ((!inR w.Loss 0 100 || !inR w.Copies 0 100) || !inR w.Damage 0 100) = true) : wireOk w = false := decide_eq_false fun ⟨_,⟨a,b,c⟩,_⟩ => by rw [a,b,c] at h; exact absurd h (by decide)
theorem flight_no {f : TFlight} (h : (!inR f.At 0 1100000 || !inR (f.Data.size : Int) 1 20000) = true) : flightOk f = false := by
  rw [flightOk]
  cases h1 : inR f.At 0 1100000
  · rfl
  · rw [h1] at h; simpa using h
theorem flight_yes {f : TFlight} (h : (!inR f.At 0 1100000 || !inR (f.Data.size : Int) 1 20000) = false) : flightOk f = true := by
  rw [flightOk]
  simpa using h
theorem wire_all (h1 : ((!inR w.Seed 0 65535 || !inR w.Delay 0 12) || !inR w.Jitter 0 12) = false) (h2 : ((!inR w.Loss 0 100 || !inR w.Copies 0 100) || !inR w.Damage 0 100) = false) (h3 : ((!inR w.Now 0 1000000 || !inR w.Sent 0 1000000) || !inR w.Lost 0 1000000) = false) (h4 : w.Flights.length ≤ 200) (h5 : w.Flights.all flightOk = true) : wireOk w = true := by
  simp only [Bool.or_eq_false_iff,Bool.not_eq_false'] at h1 h2 h3
  exact decide_eq_true ⟨⟨h1.1.1,h1.1.2,h1.2⟩,⟨h2.1.1,h2.1.2,h2.2⟩,⟨h3.1.1,h3.1.2,h3.2⟩,h4,h5⟩
theorem wire_S {n : Nat} (h5 : w.Flights.all flightOk = true) (hl : n = w.Flights.length) : (((((((((decide ((n : Int) ≤ 200) && inR w.Seed 0 65535) && inR w.Delay 0 12) && inR w.Jitter 0 12) && inR w.Loss 0 100) && inR w.Copies 0 100) && inR w.Damage 0 100) && inR w.Now 0 1000000) && inR w.Sent 0 1000000) && inR w.Lost 0 1000000) = wireOk w := by
  subst hl
  rw [Bool.eq_iff_iff]
  simp only [Bool.and_eq_true,decide_eq_true_eq,wireOk,WireP,h5]
  constructor
  · intro ⟨⟨⟨⟨⟨⟨⟨⟨⟨a,b⟩,c⟩,d⟩,e⟩,f⟩,g⟩,h⟩,i⟩,j⟩
    exact ⟨⟨b,c,d⟩,⟨e,f,g⟩,⟨h,i,j⟩,by omega,trivial⟩
  · intro ⟨⟨b,c,d⟩,⟨e,f,g⟩,⟨h,i,j⟩,a,_⟩
    exact ⟨⟨⟨⟨⟨⟨⟨⟨⟨by omega,b⟩,c⟩,d⟩,e⟩,f⟩,g⟩,h⟩,i⟩,j⟩
theorem wno3 (h : ((!inR w.Now 0 1000000 || !inR w.Sent 0 1000000) || !inR w.Lost 0 1000000) = true) : wireOk w = false := decide_eq_false fun ⟨_,_,⟨a,b,c⟩,_⟩ => by rw [a,b,c] at h; exact absurd h (by decide)
end
set_option maxHeartbeats 8000000 in
theorem I_WireOk (x : TWire) (hg : Enc.gd x) : Con Tryz.prog 74 [] [ag x] [] (B (wireOk x)) := by
  obtain ⟨gSe,gDe,gJi,gLo,gCo,gDa,gNo,gFl,gSt,gLt⟩ := hg
  have hl := els_len x.Flights
  refine Con.of Tryz.func74 rfl Tryz.ntmps74 rfl (fun E => ?_)
  refine A_seq (A_region ?_);refine M1 (q_boxN rfl rfl rfl rfl) rfl rfl ?_;refine M0 (q_assignC rfl rfl rfl) rfl rfl ?_;refine L_nil (T_n (A_seq (A_seq ?_)))
  refine A_region ?_;refine M0 (q_fldp rfl rfl rfl rfl (by decide)) rfl rfl ?_;refine M0 (q_ld1 rfl rfl rfl rfl rfl) rfl rfl ?_
  refine M0 (q_call0 rfl rfl (I_between x.Seed 0 65535) rfl) rfl rfl ?_;refine M0 (q_not rfl rfl rfl) rfl rfl ?_;refine M0 (q_moveC rfl rfl rfl) rfl rfl ?_
  refine M0 (Qt.grdF rfl rfl rfl .stop (fun hgrd => q_fldp rfl rfl rfl rfl (by decide))) rfl rfl ?_
  refine M0 (Qt.grdF rfl rfl rfl (.hit .stop) (fun hgrd => q_ld1 rfl rfl rfl rfl rfl)) rfl rfl ?_
  refine M0 (Qt.grdF rfl rfl rfl (.hit (.hit .stop)) (fun hgrd => q_call0 rfl rfl (I_between x.Delay 0 12) rfl)) rfl rfl ?_
  refine M0 (Qt.grdF rfl rfl rfl (.hit (.hit (.hit .stop))) (fun hgrd => q_not rfl rfl rfl)) rfl rfl ?_;refine M0 (q_or rfl rfl rfl rfl) rfl rfl ?_
  refine M0 (q_moveC rfl rfl rfl) rfl rfl ?_;refine M0 (Qt.grdF rfl rfl rfl .stop (fun hgrd => q_fldp rfl rfl rfl rfl (by decide))) rfl rfl ?_
  refine M0 (Qt.grdF rfl rfl rfl (.hit .stop) (fun hgrd => q_ld1 rfl rfl rfl rfl rfl)) rfl rfl ?_
  refine M0 (Qt.grdF rfl rfl rfl (.hit (.hit .stop)) (fun hgrd => q_call0 rfl rfl (I_between x.Jitter 0 12) rfl)) rfl rfl ?_
  refine M0 (Qt.grdF rfl rfl rfl (.hit (.hit (.hit .stop))) (fun hgrd => q_not rfl rfl rfl)) rfl rfl ?_;refine M0 (q_or rfl rfl rfl rfl) rfl rfl ?_;refine L_nil (T_n ?_)
  refine A_cond rfl (fun h1 => ?_) (fun h1 => ?_)
  · rw [wno1 h1]
    refine A_seq (A_region ?_);refine M0 (q_assignC rfl rfl rfl) rfl rfl ?_;refine L_nil (T_n (A_ret (T_r (F_r ?_))))
    exact E_tmp rfl rfl (W_end [] (by decide) rfl rfl rfl)
  refine AWP.pre (st' := (⟨_,[(1,.o (.c (.ptr 0 0)))],[.box ((Enc.e x).map (V1.rd []))]⟩ : St)) ?_ (W_go [0] (by decide) rfl (rfl) (.cons rfl (.nil)))
  refine A_skip (T_n (A_seq (A_seq (A_region ?_))));refine M0 (q_fldp rfl rfl rfl rfl (by decide)) rfl rfl ?_
  refine M0 (q_ld1 rfl rfl rfl rfl rfl) rfl rfl ?_;refine M0 (q_call0 rfl rfl (I_between x.Loss 0 100) rfl) rfl rfl ?_;refine M0 (q_not rfl rfl rfl) rfl rfl ?_
  refine M0 (q_moveC rfl rfl rfl) rfl rfl ?_;refine M0 (Qt.grdF rfl rfl rfl .stop (fun hgrd => q_fldp rfl rfl rfl rfl (by decide))) rfl rfl ?_
  refine M0 (Qt.grdF rfl rfl rfl (.hit .stop) (fun hgrd => q_ld1 rfl rfl rfl rfl rfl)) rfl rfl ?_
  refine M0 (Qt.grdF rfl rfl rfl (.hit (.hit .stop)) (fun hgrd => q_call0 rfl rfl (I_between x.Copies 0 100) rfl)) rfl rfl ?_
  refine M0 (Qt.grdF rfl rfl rfl (.hit (.hit (.hit .stop))) (fun hgrd => q_not rfl rfl rfl)) rfl rfl ?_;refine M0 (q_or rfl rfl rfl rfl) rfl rfl ?_
  refine M0 (q_moveC rfl rfl rfl) rfl rfl ?_;refine M0 (Qt.grdF rfl rfl rfl .stop (fun hgrd => q_fldp rfl rfl rfl rfl (by decide))) rfl rfl ?_
  refine M0 (Qt.grdF rfl rfl rfl (.hit .stop) (fun hgrd => q_ld1 rfl rfl rfl rfl rfl)) rfl rfl ?_
  refine M0 (Qt.grdF rfl rfl rfl (.hit (.hit .stop)) (fun hgrd => q_call0 rfl rfl (I_between x.Damage 0 100) rfl)) rfl rfl ?_
  refine M0 (Qt.grdF rfl rfl rfl (.hit (.hit (.hit .stop))) (fun hgrd => q_not rfl rfl rfl)) rfl rfl ?_;refine M0 (q_or rfl rfl rfl rfl) rfl rfl ?_;refine L_nil (T_n ?_)
  refine A_cond rfl (fun h2 => ?_) (fun h2 => ?_)
  · rw [wno2 h2]
    refine A_seq (A_region ?_);refine M0 (q_assignC rfl rfl rfl) rfl rfl ?_;refine L_nil (T_n (A_ret (T_r (F_r ?_))))
    exact E_tmp rfl rfl (W_end [] (by decide) rfl rfl rfl)
  refine AWP.pre (st' := (⟨_,[(1,.o (.c (.ptr 0 0)))],[.box ((Enc.e x).map (V1.rd []))]⟩ : St)) ?_ (W_go [0] (by decide) rfl (rfl) (.cons rfl (.nil)))
  refine A_skip (T_n (A_seq (A_seq (A_region ?_))));refine M0 (q_fldp rfl rfl rfl rfl (by decide)) rfl rfl ?_
  refine M0 (q_ld1 rfl rfl rfl rfl rfl) rfl rfl ?_;refine M0 (q_call0 rfl rfl (I_between x.Now 0 1000000) rfl) rfl rfl ?_;refine M0 (q_not rfl rfl rfl) rfl rfl ?_
  refine M0 (q_moveC rfl rfl rfl) rfl rfl ?_;refine M0 (Qt.grdF rfl rfl rfl .stop (fun hgrd => q_fldp rfl rfl rfl rfl (by decide))) rfl rfl ?_
  refine M0 (Qt.grdF rfl rfl rfl (.hit .stop) (fun hgrd => q_ld1 rfl rfl rfl rfl rfl)) rfl rfl ?_
  refine M0 (Qt.grdF rfl rfl rfl (.hit (.hit .stop)) (fun hgrd => q_call0 rfl rfl (I_between x.Sent 0 1000000) rfl)) rfl rfl ?_
  refine M0 (Qt.grdF rfl rfl rfl (.hit (.hit (.hit .stop))) (fun hgrd => q_not rfl rfl rfl)) rfl rfl ?_;refine M0 (q_or rfl rfl rfl rfl) rfl rfl ?_
  refine M0 (q_moveC rfl rfl rfl) rfl rfl ?_;refine M0 (Qt.grdF rfl rfl rfl .stop (fun hgrd => q_fldp rfl rfl rfl rfl (by decide))) rfl rfl ?_
  refine M0 (Qt.grdF rfl rfl rfl (.hit .stop) (fun hgrd => q_ld1 rfl rfl rfl rfl rfl)) rfl rfl ?_
  refine M0 (Qt.grdF rfl rfl rfl (.hit (.hit .stop)) (fun hgrd => q_call0 rfl rfl (I_between x.Lost 0 1000000) rfl)) rfl rfl ?_
  refine M0 (Qt.grdF rfl rfl rfl (.hit (.hit (.hit .stop))) (fun hgrd => q_not rfl rfl rfl)) rfl rfl ?_;refine M0 (q_or rfl rfl rfl rfl) rfl rfl ?_;refine L_nil (T_n ?_)
  refine A_cond rfl (fun h3 => ?_) (fun h3 => ?_)
  · rw [wno3 h3]
    refine A_seq (A_region ?_);refine M0 (q_assignC rfl rfl rfl) rfl rfl ?_;refine L_nil (T_n (A_ret (T_r (F_r ?_))))
    exact E_tmp rfl rfl (W_end [] (by decide) rfl rfl rfl)
  refine AWP.pre (st' := (⟨_,[(1,.o (.c (.ptr 0 0)))],[.box ((Enc.e x).map (V1.rd []))]⟩ : St)) ?_ (W_go [0] (by decide) rfl (rfl) (.cons rfl (.nil)))
  refine A_skip (T_n (A_seq (A_seq (A_region ?_))));refine M0 (q_fldp rfl rfl rfl rfl (by decide)) rfl rfl ?_
  refine M0 (q_ld1 rfl rfl rfl rfl rfl) rfl rfl ?_;refine M0 (q_len rfl rfl rfl) rfl rfl ?_;refine M0 (q_gtr rfl rfl rfl rfl) rfl rfl ?_;refine L_nil (T_n ?_)
  refine A_cond rfl (fun h4 => ?_) (fun h4 => ?_)
  · have h4 := of_decide_eq_true h4
    rw [show wireOk x = false from decide_eq_false fun ⟨_,_,_,q,_⟩ => by omega]
    refine A_seq (A_region ?_);refine M0 (q_assignC rfl rfl rfl) rfl rfl ?_;refine L_nil (T_n (A_ret (T_r (F_r ?_))))
    exact E_tmp rfl rfl (W_end [] (by decide) rfl rfl rfl)
  have h4 := of_decide_eq_false h4
  refine AWP.pre (st' := (⟨_,[(1,.o (.c (.ptr 0 0)))],[.box ((Enc.e x).map (V1.rd []))]⟩ : St)) ?_ (W_go [0] (by decide) rfl (rfl) (.cons rfl (.nil)))
  refine A_skip (T_n (A_seq (A_seq (A_region ?_))));refine M0 (q_fldp rfl rfl rfl rfl (by decide)) rfl rfl ?_
  refine M0 (q_ld1 rfl rfl rfl rfl rfl) rfl rfl ?_;refine M0 (q_len rfl rfl rfl) rfl rfl ?_;refine M0 (q_moveC rfl rfl rfl) rfl rfl ?_;refine L_nil (T_n (A_block ?_))
  refine A_loop (fun m st => ∃ k : Nat,k + m = x.Flights.length ∧ ((x.Flights.take k).all flightOk = true) ∧ st = (fun k : Nat => (⟨_,[(1,.o (.c (.ptr 0 0))),(58,L x.Flights),(59,I (els x.Flights).length),(60,I k)],[.box ((Enc.e x).map (V1.rd []))]⟩ : St)) k) (x.Flights.length) ⟨(fun k : Nat => (⟨_,[(1,.o (.c (.ptr 0 0))),(58,L x.Flights),(59,I (els x.Flights).length),(60,I k)],[.box ((Enc.e x).map (V1.rd []))]⟩ : St)) 0,W_go [0] (by decide) rfl (rfl) (.cons rfl (.cons rfl (.cons rfl (.cons rfl (.nil))))),0,by omega,by simp,rfl⟩ ?_
  rintro m_A _ ⟨k,hk_A,hp_A,rfl⟩
  refine A_seq (A_region ?_);refine M0 (q_lss rfl rfl rfl rfl) rfl rfl ?_;refine L_nil (T_n (A_seq ?_))
  refine A_cond rfl (fun h => ?_) (fun h => ?_)
  · have h5 : k < x.Flights.length := by have := of_decide_eq_true h; omega
    have hat := els_at h5
    refine A_skip (T_n (A_seq (A_block (A_seq (A_region ?_)))));refine M0 (q_at rfl rfl rfl rfl (by omega) (by assumption) rfl) rfl rfl ?_
    refine M0 (q_lrN rfl rfl rfl rfl rfl) rfl rfl ?_;refine M1 (q_alloc rfl rfl rfl) rfl rfl ?_;refine M_stN rfl rfl rfl rfl rfl rfl rfl rfl rfl ?_;refine L_nil (T_n ?_)
    refine A_seq (A_region ?_);refine M0 (q_fldp rfl rfl rfl rfl (by decide)) rfl rfl ?_;refine M0 (q_ld1 rfl rfl rfl rfl rfl) rfl rfl ?_
    refine M0 (q_call0 rfl rfl (I_between x.Flights[k].At 0 1100000) rfl) rfl rfl ?_;refine M0 (q_not rfl rfl rfl) rfl rfl ?_;refine M0 (q_moveC rfl rfl rfl) rfl rfl ?_
    refine M0 (Qt.grdF rfl rfl rfl .stop (fun hgrd => q_fldp rfl rfl rfl rfl (by decide))) rfl rfl ?_
    refine M0 (Qt.grdF rfl rfl rfl (.hit .stop) (fun hgrd => q_ld1 rfl rfl rfl rfl rfl)) rfl rfl ?_
    refine M0 (Qt.grdF rfl rfl rfl (.hit (.hit .stop)) (fun hgrd => q_lens rfl rfl rfl)) rfl rfl ?_
    refine M0 (Qt.grdF rfl rfl rfl (.hit (.hit (.hit .stop))) (fun hgrd => q_call0 rfl rfl (I_between x.Flights[k].Data.size 1 20000) rfl)) rfl rfl ?_
    refine M0 (Qt.grdF rfl rfl rfl (.hit (.hit (.hit (.hit .stop)))) (fun hgrd => q_not rfl rfl rfl)) rfl rfl ?_;refine M0 (q_or rfl rfl rfl rfl) rfl rfl ?_;refine L_nil (T_n ?_)
    refine A_cond rfl (fun h6 => ?_) (fun h6 => ?_)
    · rw [show wireOk x = false from decide_eq_false fun ⟨_,_,_,_,q⟩ => by rw [all_no h5 (flight_no h6)] at q; cases q]
      refine A_seq (A_region ?_);refine M0 (q_assignC rfl rfl rfl) rfl rfl ?_;refine L_nil (T_n (A_ret (B_r (T_r (T_r (B_r ?_))))))
      refine T_r (F_r ?_)
      exact E_tmp rfl rfl (W_end [] (by decide) rfl rfl rfl)
    · refine A_skip (B_n (T_n (A_region ?_)));refine M0 (q_add rfl rfl rfl rfl (by omega)) rfl rfl ?_;refine M0 (q_moveC rfl rfl rfl) rfl rfl ?_;refine L_nil ?_
      refine T_n ?_
      exact ⟨x.Flights.length - (k + 1),by omega,(fun k : Nat => (⟨_,[(1,.o (.c (.ptr 0 0))),(58,L x.Flights),(59,I (els x.Flights).length),(60,I k)],[.box ((Enc.e x).map (V1.rd []))]⟩ : St)) (k + 1),W_go [0] (by decide) rfl (rfl) (.cons rfl (.cons rfl (.cons rfl (.cons rfl (.nil))))),k + 1,by omega,all_next hp_A h5 (flight_yes h6),rfl⟩
  have h5 : ¬ ((k : Int) < (els x.Flights).length) := of_decide_eq_false h
  rw [wire_all h1 h2 h3 (by omega) (all_end hp_A (by omega))]
  refine A_exit (T_x (T_x (B_xs (T_n (A_seq (A_region ?_))))));refine M0 (q_assignC rfl rfl rfl) rfl rfl ?_;refine L_nil (T_n ?_)
  refine A_ret (F_r ?_)
  exact E_tmp rfl rfl (W_end [] (by decide) rfl rfl rfl)
set_option maxHeartbeats 8000000 in
theorem S_WireOk (x : TWire) (hg : Enc.gd x) : Con Tryz.prog 25 [] [ag x] [] (B (wireOk x)) := by
  obtain ⟨gSe,gDe,gJi,gLo,gCo,gDa,gNo,gFl,gSt,gLt⟩ := hg
  have hl := els_len x.Flights
  have hx := gFl.1
  refine Con.of Tryz.func25 rfl Tryz.ntmps25 rfl (fun E => ?_)
  refine A_seq (A_region ?_);refine M1 (q_boxN rfl rfl rfl rfl) rfl rfl ?_;refine M0 (q_assignC rfl rfl rfl) rfl rfl ?_;refine L_nil (T_n (A_seq (A_seq ?_)))
  refine A_region ?_;refine M0 (q_assignC rfl rfl rfl) rfl rfl ?_;refine L_nil (T_n (A_block ?_))
  refine A_loop (fun m st => ∃ k : Nat,k + m = x.Flights.length ∧ ((x.Flights.take k).all flightOk = true) ∧ st = (fun k : Nat => (⟨_,[(1,.o (.c (.ptr 0 0))),(3,I k)],[.box ((Enc.e x).map (V1.rd []))]⟩ : St)) k) (x.Flights.length) ⟨(fun k : Nat => (⟨_,[(1,.o (.c (.ptr 0 0))),(3,I k)],[.box ((Enc.e x).map (V1.rd []))]⟩ : St)) 0,W_go [0] (by decide) rfl (rfl) (.cons rfl (.cons rfl (.nil))),0,by omega,by simp,rfl⟩ ?_
  rintro m_A _ ⟨k,hk_A,hp_A,rfl⟩
  refine A_seq (A_seq (A_region ?_));refine M0 (q_moveC rfl rfl rfl) rfl rfl ?_;refine M0 (q_fldp rfl rfl rfl rfl (by decide)) rfl rfl ?_
  refine M0 (q_ld1 rfl rfl rfl rfl rfl) rfl rfl ?_;refine M0 (q_len rfl rfl rfl) rfl rfl ?_;refine M0 (q_lss rfl rfl rfl rfl) rfl rfl ?_;refine L_nil (T_n ?_)
  refine A_cond rfl (fun h => ?_) (fun h => ?_)
  · have h5 : k < x.Flights.length := by have := of_decide_eq_true h; omega
    have hat := els_at h5
    refine A_skip (T_n (A_seq (A_block (A_seq (A_region ?_)))));refine M0 (q_fldp rfl rfl rfl rfl (by decide)) rfl rfl ?_
    refine M0 (q_ld1 rfl rfl rfl rfl rfl) rfl rfl ?_;refine M0 (q_moveC rfl rfl rfl) rfl rfl ?_;refine M0 (q_at rfl rfl rfl rfl (by omega) (by assumption) rfl) rfl rfl ?_
    refine M0 (q_fldr rfl rfl rfl rfl (by decide)) rfl rfl ?_;refine M0 (q_lr1 rfl rfl rfl rfl) rfl rfl ?_;refine M0 (q_call0 rfl rfl (S_in x.Flights[k].At 0 1100000) rfl) rfl rfl ?_
    refine M0 (q_not rfl rfl rfl) rfl rfl ?_;refine M0 (q_moveC rfl rfl rfl) rfl rfl ?_;refine M0 (Qt.grdF rfl rfl rfl .stop (fun hgrd => q_fldp rfl rfl rfl rfl (by decide))) rfl rfl ?_
    refine M0 (Qt.grdF rfl rfl rfl (.hit .stop) (fun hgrd => q_ld1 rfl rfl rfl rfl rfl)) rfl rfl ?_
    refine M0 (Qt.grdF rfl rfl rfl (.hit (.hit .stop)) (fun hgrd => q_moveC rfl rfl rfl)) rfl rfl ?_
    refine M0 (Qt.grdF rfl rfl rfl (.hit (.hit (.hit .stop))) (fun hgrd => q_at rfl rfl rfl rfl (by omega) (by assumption) rfl)) rfl rfl ?_
    refine M0 (Qt.grdF rfl rfl rfl (.hit (.hit (.hit (.hit .stop)))) (fun hgrd => q_fldr rfl rfl rfl rfl (by decide))) rfl rfl ?_
    refine M0 (Qt.grdF rfl rfl rfl (.hit (.hit (.hit (.hit (.hit .stop))))) (fun hgrd => q_lr1 rfl rfl rfl rfl)) rfl rfl ?_
    refine M0 (Qt.grdF rfl rfl rfl (.hit (.hit (.hit (.hit (.hit (.hit .stop)))))) (fun hgrd => q_lens rfl rfl rfl)) rfl rfl ?_
    refine M0 (Qt.grdF rfl rfl rfl (.hit (.hit (.hit (.hit (.hit (.hit (.hit .stop))))))) (fun hgrd => q_call0 rfl rfl (S_in x.Flights[k].Data.size 1 20000) rfl)) rfl rfl ?_
    refine M0 (Qt.grdF rfl rfl rfl (.hit (.hit (.hit (.hit (.hit (.hit (.hit (.hit .stop)))))))) (fun hgrd => q_not rfl rfl rfl)) rfl rfl ?_;refine M0 (q_or rfl rfl rfl rfl) rfl rfl ?_
    refine L_nil (T_n ?_)
    refine A_cond rfl (fun h6 => ?_) (fun h6 => ?_)
    · rw [show wireOk x = false from decide_eq_false fun ⟨_,_,_,_,q⟩ => by rw [all_no h5 (flight_no h6)] at q; cases q]
      refine A_seq (A_region ?_);refine M0 (q_assignC rfl rfl rfl) rfl rfl ?_;refine L_nil (T_n (A_ret (B_r (T_r (T_r (B_r ?_))))))
      refine T_r (F_r ?_)
      exact E_tmp rfl rfl (W_end [] (by decide) rfl rfl rfl)
    · refine A_skip (B_n (T_n (A_region ?_)));refine M0 (q_moveC rfl rfl rfl) rfl rfl ?_;refine M0 (q_add rfl rfl rfl rfl (by omega)) rfl rfl ?_
      refine M0 (q_assignC rfl rfl rfl) rfl rfl ?_;refine L_nil (T_n ?_)
      exact ⟨x.Flights.length - (k + 1),by omega,(fun k : Nat => (⟨_,[(1,.o (.c (.ptr 0 0))),(3,I k)],[.box ((Enc.e x).map (V1.rd []))]⟩ : St)) (k + 1),W_go [0] (by decide) rfl (rfl) (.cons rfl (.cons rfl (.nil))),k + 1,by omega,all_next hp_A h5 (flight_yes h6),rfl⟩
  have h5 : ¬ ((k : Int) < (els x.Flights).length) := of_decide_eq_false h
  have hall := all_end hp_A (by omega)
  refine A_exit (T_x (T_x (B_xs (T_n (A_seq (A_region ?_))))));refine M0 (q_fldp rfl rfl rfl rfl (by decide)) rfl rfl ?_
  refine M0 (q_ld1 rfl rfl rfl rfl rfl) rfl rfl ?_;refine M0 (q_len rfl rfl rfl) rfl rfl ?_;refine M0 (q_leq rfl rfl rfl rfl) rfl rfl ?_;refine M0 (q_moveC rfl rfl rfl) rfl rfl ?_
  refine M0 (Qt.grdT rfl rfl rfl .stop (fun hgrd => q_fldp rfl rfl rfl rfl (by decide))) rfl rfl ?_
  refine M0 (Qt.grdT rfl rfl rfl (.hit .stop) (fun hgrd => q_ld1 rfl rfl rfl rfl rfl)) rfl rfl ?_
  refine M0 (Qt.grdT rfl rfl rfl (.hit (.hit .stop)) (fun hgrd => q_call0 rfl rfl (S_in x.Seed 0 65535) rfl)) rfl rfl ?_;refine M0 (q_and rfl rfl rfl rfl) rfl rfl ?_
  refine M0 (q_moveC rfl rfl rfl) rfl rfl ?_;refine M0 (Qt.grdT rfl rfl rfl .stop (fun hgrd => q_fldp rfl rfl rfl rfl (by decide))) rfl rfl ?_
  refine M0 (Qt.grdT rfl rfl rfl (.hit .stop) (fun hgrd => q_ld1 rfl rfl rfl rfl rfl)) rfl rfl ?_
  refine M0 (Qt.grdT rfl rfl rfl (.hit (.hit .stop)) (fun hgrd => q_call0 rfl rfl (S_in x.Delay 0 12) rfl)) rfl rfl ?_;refine M0 (q_and rfl rfl rfl rfl) rfl rfl ?_
  refine M0 (q_moveC rfl rfl rfl) rfl rfl ?_;refine M0 (Qt.grdT rfl rfl rfl .stop (fun hgrd => q_fldp rfl rfl rfl rfl (by decide))) rfl rfl ?_
  refine M0 (Qt.grdT rfl rfl rfl (.hit .stop) (fun hgrd => q_ld1 rfl rfl rfl rfl rfl)) rfl rfl ?_
  refine M0 (Qt.grdT rfl rfl rfl (.hit (.hit .stop)) (fun hgrd => q_call0 rfl rfl (S_in x.Jitter 0 12) rfl)) rfl rfl ?_;refine M0 (q_and rfl rfl rfl rfl) rfl rfl ?_
  refine M0 (q_moveC rfl rfl rfl) rfl rfl ?_;refine M0 (Qt.grdT rfl rfl rfl .stop (fun hgrd => q_fldp rfl rfl rfl rfl (by decide))) rfl rfl ?_
  refine M0 (Qt.grdT rfl rfl rfl (.hit .stop) (fun hgrd => q_ld1 rfl rfl rfl rfl rfl)) rfl rfl ?_
  refine M0 (Qt.grdT rfl rfl rfl (.hit (.hit .stop)) (fun hgrd => q_call0 rfl rfl (S_in x.Loss 0 100) rfl)) rfl rfl ?_;refine M0 (q_and rfl rfl rfl rfl) rfl rfl ?_
  refine M0 (q_moveC rfl rfl rfl) rfl rfl ?_;refine M0 (Qt.grdT rfl rfl rfl .stop (fun hgrd => q_fldp rfl rfl rfl rfl (by decide))) rfl rfl ?_
  refine M0 (Qt.grdT rfl rfl rfl (.hit .stop) (fun hgrd => q_ld1 rfl rfl rfl rfl rfl)) rfl rfl ?_
  refine M0 (Qt.grdT rfl rfl rfl (.hit (.hit .stop)) (fun hgrd => q_call0 rfl rfl (S_in x.Copies 0 100) rfl)) rfl rfl ?_;refine M0 (q_and rfl rfl rfl rfl) rfl rfl ?_
  refine M0 (q_moveC rfl rfl rfl) rfl rfl ?_;refine M0 (Qt.grdT rfl rfl rfl .stop (fun hgrd => q_fldp rfl rfl rfl rfl (by decide))) rfl rfl ?_
  refine M0 (Qt.grdT rfl rfl rfl (.hit .stop) (fun hgrd => q_ld1 rfl rfl rfl rfl rfl)) rfl rfl ?_
  refine M0 (Qt.grdT rfl rfl rfl (.hit (.hit .stop)) (fun hgrd => q_call0 rfl rfl (S_in x.Damage 0 100) rfl)) rfl rfl ?_;refine M0 (q_and rfl rfl rfl rfl) rfl rfl ?_
  refine M0 (q_moveC rfl rfl rfl) rfl rfl ?_;refine M0 (Qt.grdT rfl rfl rfl .stop (fun hgrd => q_fldp rfl rfl rfl rfl (by decide))) rfl rfl ?_
  refine M0 (Qt.grdT rfl rfl rfl (.hit .stop) (fun hgrd => q_ld1 rfl rfl rfl rfl rfl)) rfl rfl ?_
  refine M0 (Qt.grdT rfl rfl rfl (.hit (.hit .stop)) (fun hgrd => q_call0 rfl rfl (S_in x.Now 0 1000000) rfl)) rfl rfl ?_;refine M0 (q_and rfl rfl rfl rfl) rfl rfl ?_
  refine M0 (q_moveC rfl rfl rfl) rfl rfl ?_;refine M0 (Qt.grdT rfl rfl rfl .stop (fun hgrd => q_fldp rfl rfl rfl rfl (by decide))) rfl rfl ?_
  refine M0 (Qt.grdT rfl rfl rfl (.hit .stop) (fun hgrd => q_ld1 rfl rfl rfl rfl rfl)) rfl rfl ?_
  refine M0 (Qt.grdT rfl rfl rfl (.hit (.hit .stop)) (fun hgrd => q_call0 rfl rfl (S_in x.Sent 0 1000000) rfl)) rfl rfl ?_;refine M0 (q_and rfl rfl rfl rfl) rfl rfl ?_
  refine M0 (q_moveC rfl rfl rfl) rfl rfl ?_;refine M0 (Qt.grdT rfl rfl rfl .stop (fun hgrd => q_fldp rfl rfl rfl rfl (by decide))) rfl rfl ?_
  refine M0 (Qt.grdT rfl rfl rfl (.hit .stop) (fun hgrd => q_ld1 rfl rfl rfl rfl rfl)) rfl rfl ?_
  refine M0 (Qt.grdT rfl rfl rfl (.hit (.hit .stop)) (fun hgrd => q_call0 rfl rfl (S_in x.Lost 0 1000000) rfl)) rfl rfl ?_;refine M0 (q_and rfl rfl rfl rfl) rfl rfl ?_
  refine M0 (q_assignC rfl rfl rfl) rfl rfl ?_;refine L_nil (T_n (A_ret (F_r ?_)))
  exact E_tmp rfl rfl (W_end [] (by decide) rfl rfl (B_eq (wire_S hall hl)))
end Go.Proofs.YtbpebmolbdplmaaGreat
end

section
set_option linter.unusedSimpArgs false
set_option linter.unusedVariables false
set_option maxRecDepth 8000
namespace Go.Proofs.YtbpebmolbdplmaaGreat
open Go.RowKit

section
variable {m : TMatch} {k : Nat} {p : TPeer}
theorem pin_spec (h : peerIn m k p = true) : (peerOk p = true ∧ p.Me = (k : Int) ∧ (p.Tracks.length : Int) = (m.Scripts.length : Int)) ∧ p.Base.Level = m.Level ∧ p.Seed = m.Seed ∧ p.Delay = m.Delay := by
  simp only [peerIn,Bool.and_eq_true,decide_eq_true_eq] at h
  exact ⟨⟨h.1.1.1,h.1.1.2,h.1.2⟩,h.2.1.1,h.2.1.2,h.2.2⟩
theorem pin_no1 (h : ((!peerOk p || decide (p.Me ≠ (k : Int))) || decide (((els p.Tracks).length : Int) ≠ ((els m.Scripts).length : Int))) = true) : ¬ peerIn m k p = true := fun hp => by
  obtain ⟨⟨a,b,c⟩,_⟩ := pin_spec hp
  rw [a,decide_eq_false (fun q => q b),els_len,els_len,decide_eq_false (fun q => q c)] at h
  exact absurd h (by decide)
theorem pin_no2 (h : ((!decide (p.Base.Level = m.Level) || decide (p.Seed ≠ m.Seed)) || decide (p.Delay ≠ m.Delay)) = true) : ¬ peerIn m k p = true := fun hp => by
  obtain ⟨_,a,b,c⟩ := pin_spec hp
  rw [decide_eq_true a,decide_eq_false (fun q => q b),decide_eq_false (fun q => q c)] at h
  exact absurd h (by decide)
theorem pin_yes (h : ((!peerOk p || decide (p.Me ≠ (k : Int))) || decide (((els p.Tracks).length : Int) ≠ ((els m.Scripts).length : Int))) = false) (h2 : ((!decide (p.Base.Level = m.Level) || decide (p.Seed ≠ m.Seed)) || decide (p.Delay ≠ m.Delay)) = false) : peerIn m k p = true := by
  simp only [Bool.or_eq_false_iff,Bool.not_eq_false',decide_eq_false_iff_not,Classical.not_not,decide_eq_true_eq,els_len] at h h2
  simp only [peerIn,Bool.and_eq_true,decide_eq_true_eq]
  exact ⟨⟨⟨h.1.1,h.1.2⟩,h.2⟩,⟨h2.1.1,h2.1.2⟩,h2.2⟩
theorem upto_next {Q : Nat → Prop} (h : ∀ i,i < k → Q i) (hk : Q k) : ∀ i,i < k + 1 → Q i := fun i hi => by
  by_cases e : i = k
  · subst e; exact hk
  · exact h i (by omega)
end
set_option maxHeartbeats 8000000 in
theorem I_peersOk (x : TMatch) (hg : Enc.gd x) : Con Tryz.prog 39 [] [ag x] [] (B (peersM x)) := by
  obtain ⟨gL,gS,gD,gSc,gP,gW,gPa,gA,gC,gWa,gLi,gAl,gB⟩ := hg
  have hlp := els_len x.Peers
  have hx := gP.1
  have hls := els_len x.Scripts
  refine Con.of Tryz.func39 rfl Tryz.ntmps39 rfl (fun E => ?_)
  refine A_seq (A_region ?_);refine M1 (q_boxN rfl rfl rfl rfl) rfl rfl ?_;refine M0 (q_assignC rfl rfl rfl) rfl rfl ?_;refine L_nil (T_n (A_seq (A_seq ?_)))
  refine A_region ?_;refine M0 (q_fldp rfl rfl rfl rfl (by decide)) rfl rfl ?_;refine M0 (q_ld1 rfl rfl rfl rfl rfl) rfl rfl ?_;refine M0 (q_len rfl rfl rfl) rfl rfl ?_
  refine M0 (q_fldp rfl rfl rfl rfl (by decide)) rfl rfl ?_;refine M0 (q_ld1 rfl rfl rfl rfl rfl) rfl rfl ?_;refine M0 (q_len rfl rfl rfl) rfl rfl ?_
  refine M0 (q_neq rfl rfl rfl rfl) rfl rfl ?_;refine L_nil (T_n ?_)
  refine A_cond rfl (fun h1 => ?_) (fun h1 => ?_)
  · have h1 := of_decide_eq_true h1
    rw [show peersM x = false from dF fun hp => h1 (by rw [hlp,hls,hp.1])]
    refine A_seq (A_region ?_);refine M0 (q_assignC rfl rfl rfl) rfl rfl ?_;refine L_nil (T_n (A_ret (T_r (F_r ?_))))
    exact E_tmp rfl rfl (W_end [] (by decide) rfl rfl rfl)
  have h1 : x.Peers.length = x.Scripts.length := by have := of_decide_eq_false h1; omega
  refine AWP.pre (st' := (⟨_,[(1,.o (.c (.ptr 0 0)))],[.box ((Enc.e x).map (V1.rd []))]⟩ : St)) ?_ (W_go [0] (by decide) rfl (rfl) (.cons rfl (.nil)))
  refine A_skip (T_n (A_seq (A_seq (A_region ?_))));refine M0 (q_fldp rfl rfl rfl rfl (by decide)) rfl rfl ?_
  refine M0 (q_ld1 rfl rfl rfl rfl rfl) rfl rfl ?_;refine M0 (q_len rfl rfl rfl) rfl rfl ?_;refine M0 (q_moveC rfl rfl rfl) rfl rfl ?_;refine L_nil (T_n (A_block ?_))
  refine A_loop (fun m st => ∃ k : Nat,k + m = x.Peers.length ∧ ((∀ i,i < k → ∀ p,x.Peers[i]? = some p → peerIn x i p = true)) ∧ st = (fun k : Nat => (⟨_,[(1,.o (.c (.ptr 0 0))),(13,L x.Peers),(14,I (els x.Peers).length),(15,I k)],[.box ((Enc.e x).map (V1.rd []))]⟩ : St)) k) (x.Peers.length) ⟨(fun k : Nat => (⟨_,[(1,.o (.c (.ptr 0 0))),(13,L x.Peers),(14,I (els x.Peers).length),(15,I k)],[.box ((Enc.e x).map (V1.rd []))]⟩ : St)) 0,W_go [0] (by decide) rfl (rfl) (.cons rfl (.cons rfl (.cons rfl (.cons rfl (.nil))))),0,by omega,fun i hi => absurd hi (Nat.not_lt_zero _),rfl⟩ ?_
  rintro m_A _ ⟨k,hk_A,hp_A,rfl⟩
  refine A_seq (A_region ?_);refine M0 (q_lss rfl rfl rfl rfl) rfl rfl ?_;refine L_nil (T_n (A_seq ?_))
  refine A_cond rfl (fun h => ?_) (fun h => ?_)
  · have h3 : k < x.Peers.length := by have := of_decide_eq_true h; omega
    have hat := els_at h3
    have hq := List.getElem?_eq_getElem h3
    have gp := gP.2 _ (List.getElem_mem h3)
    generalize x.Peers[k] = p at hat hq gp
    have c1 := I_PeerOk p gp
    have c2 := I_sameLevel p.Base.Level x.Level gp.2.2.2.2.2.1.1
    repeat (first | refine A_seq ?_ | refine A_skip ?_ | refine A_block ?_ | refine T_n ?_)
    refine A_region ?_
    refine M0 (q_moveC rfl rfl rfl) rfl rfl ?_
    refine M0 (q_at rfl rfl rfl rfl (by omega) (by assumption) rfl) rfl rfl ?_
    refine M0 (q_lrN rfl rfl rfl rfl rfl) rfl rfl ?_
    refine AL.weak (st' := (⟨_,[(1,.o (.c (.ptr 0 0))),(13,L x.Peers),(14,I (els x.Peers).length),(15,I k),(17,I k),(19,.o (.ag ((Enc.e p).map (V1.rd []))))],[.box ((Enc.e x).map (V1.rd []))]⟩ : St)) (W_go [0] (by decide) rfl (rfl) (.cons rfl (.cons rfl (.cons rfl (.cons rfl (.cons rfl (.cons (by kernel_rfl) (.nil)))))))) ?_
    refine M1 (q_alloc rfl rfl rfl) rfl rfl ?_
    refine M0 (q_assignC rfl rfl rfl) rfl rfl ?_
    refine M_stN rfl rfl rfl rfl rfl rfl rfl rfl rfl ?_
    refine AL.weak (st' := (⟨_,[(1,.o (.c (.ptr 0 0))),(13,L x.Peers),(14,I (els x.Peers).length),(15,I k),(3,I k),(4,.o (.c (.ptr 1 0)))],[.box ((Enc.e x).map (V1.rd [])),.box ((Enc.e p).map (V1.rd []))]⟩ : St)) (W_go [0,1] (by decide) rfl ((by kernel_rfl)) (.cons rfl (.cons rfl (.cons rfl (.cons rfl (.cons rfl (.cons rfl (.nil)))))))) ?_
    refine L_nil (T_n (A_seq (A_seq (A_region ?_))));refine M0 (q_ldN rfl rfl rfl rfl rfl rfl) rfl rfl ?_;refine M0 (q_call0 rfl rfl (c1) rfl) rfl rfl ?_
    refine M0 (q_not rfl rfl rfl) rfl rfl ?_;refine M0 (q_moveC rfl rfl rfl) rfl rfl ?_;refine M0 (Qt.grdF rfl rfl rfl .stop (fun hgrd => q_fldp rfl rfl rfl rfl (by decide))) rfl rfl ?_
    refine M0 (Qt.grdF rfl rfl rfl (.hit .stop) (fun hgrd => q_ld1 rfl rfl rfl rfl rfl)) rfl rfl ?_
    refine M0 (Qt.grdF rfl rfl rfl (.hit (.hit .stop)) (fun hgrd => q_moveC rfl rfl rfl)) rfl rfl ?_
    refine M0 (Qt.grdF rfl rfl rfl (.hit (.hit (.hit .stop))) (fun hgrd => q_neq rfl rfl rfl rfl)) rfl rfl ?_;refine M0 (q_or rfl rfl rfl rfl) rfl rfl ?_
    refine M0 (q_moveC rfl rfl rfl) rfl rfl ?_;refine M0 (Qt.grdF rfl rfl rfl .stop (fun hgrd => q_fldp rfl rfl rfl rfl (by decide))) rfl rfl ?_
    refine M0 (Qt.grdF rfl rfl rfl (.hit .stop) (fun hgrd => q_ld1 rfl rfl rfl rfl rfl)) rfl rfl ?_
    refine M0 (Qt.grdF rfl rfl rfl (.hit (.hit .stop)) (fun hgrd => q_len rfl rfl rfl)) rfl rfl ?_
    refine M0 (Qt.grdF rfl rfl rfl (.hit (.hit (.hit .stop))) (fun hgrd => q_fldp rfl rfl rfl rfl (by decide))) rfl rfl ?_
    refine M0 (Qt.grdF rfl rfl rfl (.hit (.hit (.hit (.hit .stop)))) (fun hgrd => q_ld1 rfl rfl rfl rfl rfl)) rfl rfl ?_
    refine M0 (Qt.grdF rfl rfl rfl (.hit (.hit (.hit (.hit (.hit .stop))))) (fun hgrd => q_len rfl rfl rfl)) rfl rfl ?_
    refine M0 (Qt.grdF rfl rfl rfl (.hit (.hit (.hit (.hit (.hit (.hit .stop)))))) (fun hgrd => q_neq rfl rfl rfl rfl)) rfl rfl ?_;refine M0 (q_or rfl rfl rfl rfl) rfl rfl ?_
    refine L_nil (T_n ?_)
    refine A_cond rfl (fun h4 => ?_) (fun h4 => ?_)
    · rw [show peersM x = false from dF fun hp => pin_no1 h4 (hp.2 k p hq)]
      refine A_seq (A_region ?_);refine M0 (q_assignC rfl rfl rfl) rfl rfl ?_;refine L_nil (T_n (A_ret (T_r (B_r (T_r (T_r ?_))))))
      refine B_r (T_r (F_r ?_))
      exact E_tmp rfl rfl (W_end [] (by decide) rfl rfl rfl)
    refine AWP.pre (st' := (⟨_,[(1,.o (.c (.ptr 0 0))),(13,L x.Peers),(14,I (els x.Peers).length),(15,I k),(3,I k),(4,.o (.c (.ptr 1 0)))],[.box ((Enc.e x).map (V1.rd [])),.box ((Enc.e p).map (V1.rd []))]⟩ : St)) ?_ (W_go [0,1] (by decide) rfl (rfl) (.cons rfl (.cons rfl (.cons rfl (.cons rfl (.cons rfl (.cons rfl (.nil))))))))
    refine A_skip (T_n (A_seq (A_region ?_)));refine M0 (q_fldp rfl rfl rfl rfl (by decide)) rfl rfl ?_;refine M0 (q_fldp rfl rfl rfl rfl (by decide)) rfl rfl ?_
    refine M0 (q_ldN rfl rfl rfl rfl rfl rfl) rfl rfl ?_;refine M0 (q_fldp rfl rfl rfl rfl (by decide)) rfl rfl ?_;refine M0 (q_ldN rfl rfl rfl rfl rfl rfl) rfl rfl ?_
    refine M0 (q_call0 rfl rfl (c2) rfl) rfl rfl ?_;refine M0 (q_not rfl rfl rfl) rfl rfl ?_;refine M0 (q_moveC rfl rfl rfl) rfl rfl ?_
    refine M0 (Qt.grdF rfl rfl rfl .stop (fun hgrd => q_fldp rfl rfl rfl rfl (by decide))) rfl rfl ?_
    refine M0 (Qt.grdF rfl rfl rfl (.hit .stop) (fun hgrd => q_ld1 rfl rfl rfl rfl rfl)) rfl rfl ?_
    refine M0 (Qt.grdF rfl rfl rfl (.hit (.hit .stop)) (fun hgrd => q_fldp rfl rfl rfl rfl (by decide))) rfl rfl ?_
    refine M0 (Qt.grdF rfl rfl rfl (.hit (.hit (.hit .stop))) (fun hgrd => q_ld1 rfl rfl rfl rfl rfl)) rfl rfl ?_
    refine M0 (Qt.grdF rfl rfl rfl (.hit (.hit (.hit (.hit .stop)))) (fun hgrd => q_neq rfl rfl rfl rfl)) rfl rfl ?_;refine M0 (q_or rfl rfl rfl rfl) rfl rfl ?_
    refine M0 (q_moveC rfl rfl rfl) rfl rfl ?_;refine M0 (Qt.grdF rfl rfl rfl .stop (fun hgrd => q_fldp rfl rfl rfl rfl (by decide))) rfl rfl ?_
    refine M0 (Qt.grdF rfl rfl rfl (.hit .stop) (fun hgrd => q_ld1 rfl rfl rfl rfl rfl)) rfl rfl ?_
    refine M0 (Qt.grdF rfl rfl rfl (.hit (.hit .stop)) (fun hgrd => q_fldp rfl rfl rfl rfl (by decide))) rfl rfl ?_
    refine M0 (Qt.grdF rfl rfl rfl (.hit (.hit (.hit .stop))) (fun hgrd => q_ld1 rfl rfl rfl rfl rfl)) rfl rfl ?_
    refine M0 (Qt.grdF rfl rfl rfl (.hit (.hit (.hit (.hit .stop)))) (fun hgrd => q_neq rfl rfl rfl rfl)) rfl rfl ?_;refine M0 (q_or rfl rfl rfl rfl) rfl rfl ?_;refine L_nil ?_
    refine T_n ?_
    refine A_cond rfl (fun h5 => ?_) (fun h5 => ?_)
    · rw [show peersM x = false from dF fun hp => pin_no2 h5 (hp.2 k p hq)]
      refine A_seq (A_region ?_);refine M0 (q_assignC rfl rfl rfl) rfl rfl ?_;refine L_nil (T_n (A_ret (B_r (T_r (T_r (B_r ?_))))))
      refine T_r (F_r ?_)
      exact E_tmp rfl rfl (W_end [] (by decide) rfl rfl rfl)
    refine AWP.pre (st' := (⟨_,[(1,.o (.c (.ptr 0 0))),(13,L x.Peers),(14,I (els x.Peers).length),(15,I k)],[.box ((Enc.e x).map (V1.rd []))]⟩ : St)) ?_ (W_go [0] (by decide) rfl (rfl) (.cons rfl (.cons rfl (.cons rfl (.cons rfl (.nil))))))
    refine A_skip (B_n (T_n (A_region ?_)));refine M0 (q_add rfl rfl rfl rfl (by omega)) rfl rfl ?_;refine M0 (q_moveC rfl rfl rfl) rfl rfl ?_;refine L_nil ?_
    refine T_n ?_
    exact ⟨x.Peers.length - (k + 1),by omega,(fun k : Nat => (⟨_,[(1,.o (.c (.ptr 0 0))),(13,L x.Peers),(14,I (els x.Peers).length),(15,I k)],[.box ((Enc.e x).map (V1.rd []))]⟩ : St)) (k + 1),W_go [0] (by decide) rfl (rfl) (.cons rfl (.cons rfl (.cons rfl (.cons rfl (.nil))))),k + 1,by omega,upto_next hp_A fun p' hp' => by rw [hq] at hp'; cases hp'; exact pin_yes h4 h5,rfl⟩
  have h3 : ¬ k < x.Peers.length := by have := of_decide_eq_false h; omega
  rw [show peersM x = true from dT ⟨h1,fun i p hi => hp_A i (by have := (List.getElem?_eq_some_iff.1 hi).1; omega) p hi⟩]
  refine A_exit (T_x (T_x (B_xs (T_n (A_seq (A_region ?_))))));refine M0 (q_assignC rfl rfl rfl) rfl rfl ?_;refine L_nil (T_n ?_)
  refine A_ret (F_r ?_)
  exact E_tmp rfl rfl (W_end [] (by decide) rfl rfl rfl)
theorem els_some {α : Type} [Enc α] {xs : List α} {i : Nat} {x : α} (h : xs[i]? = some x) : (els xs)[(i : Int).toNat]? = some (Enc.e x) := by simp [els,h]
theorem lenAt_some {l : List TTrack} {k : Nat} {t : TTrack} (h : l[k]? = some t) : lenAt l k = t.Inputs.length := by simp [lenAt,List.getD_eq_getElem?_getD,h]
theorem some_at {α : Type} {xs : List α} {i : Nat} (h : i < xs.length) : ∃ x,xs[i]? = some x := ⟨_,List.getElem?_eq_getElem h⟩
section
variable {m : TMatch} {i j : Nat} {ws : List TWire} {qs : List TPace} {ks : List Int} {p : TPeer} {w : TWire} {q : TPace} {a : Int} {tr : TTrack} (hws : m.Wires[i]? = some ws) (hqs : m.Paces[i]? = some qs) (hks : m.Acks[i]? = some ks)
include hws hqs hks
theorem link_len (h1 : ws.length = m.Peers.length) (h2 : qs.length = m.Peers.length) (h3 : ks.length = m.Peers.length) : LinkLen m i := fun ws' qs' ks' e1 e2 e3 => by
  rw [hws] at e1; rw [hqs] at e2; rw [hks] at e3
  cases e1; cases e2; cases e3
  exact ⟨h1,h2,h3⟩
variable (hp : m.Peers[i]? = some p) (hw : ws[j]? = some w) (hq : qs[j]? = some q) (ha : ks[j]? = some a) (ht : p.Tracks[i]? = some tr)
include hp hw hq ha ht
theorem link_spec (h : LinkAt m i j) : wireOk w = true ∧ paceOk q = true ∧ inR a 0 (els tr.Inputs).length = true := by
  have h := h ws qs ks p w q a hws hqs hks hp hw hq ha
  rwa [lenAt_some ht,← els_len tr.Inputs] at h
theorem link_yes (h1 : (!wireOk w || !paceOk q) = false) (h2 : inR a 0 (els tr.Inputs).length = true) : LinkAt m i j := fun ws' qs' ks' p' w' q' a' e1 e2 e3 e4 e5 e6 e7 => by
  rw [hws] at e1; rw [hqs] at e2; rw [hks] at e3; rw [hp] at e4
  cases e1; cases e2; cases e3; cases e4
  rw [hw] at e5; rw [hq] at e6; rw [ha] at e7
  cases e5; cases e6; cases e7
  simp only [Bool.or_eq_false_iff,Bool.not_eq_false'] at h1
  rw [els_len] at h2
  exact ⟨h1.1,h1.2,by rw [lenAt_some ht]; exact h2⟩
end
set_option maxHeartbeats 8000000 in
theorem I_linksOk (x : TMatch) (hg : Enc.gd x) (hP : PeersP x) : Con Tryz.prog 40 [] [ag x] [] (B (linksM x)) := by
  obtain ⟨gL,gS,gD,gSc,gP,gW,gPa,gA,gC,gWa,gLi,gAl,gB⟩ := hg
  have hlp := els_len x.Peers
  have hx := gP.1
  have hlw := els_len x.Wires
  have hlq := els_len x.Paces
  have hla := els_len x.Acks
  refine Con.of Tryz.func40 rfl Tryz.ntmps40 rfl (fun E => ?_)
  refine A_seq (A_region ?_);refine M1 (q_boxN rfl rfl rfl rfl) rfl rfl ?_;refine M0 (q_assignC rfl rfl rfl) rfl rfl ?_;refine L_nil (T_n (A_seq ?_))
  refine A_region ?_;refine M0 (q_fldp rfl rfl rfl rfl (by decide)) rfl rfl ?_;refine M0 (q_ld1 rfl rfl rfl rfl rfl) rfl rfl ?_;refine M0 (q_len rfl rfl rfl) rfl rfl ?_
  refine M0 (q_assignC rfl rfl rfl) rfl rfl ?_;refine L_nil (T_n (A_seq (A_seq (A_region ?_))));refine M0 (q_fldp rfl rfl rfl rfl (by decide)) rfl rfl ?_
  refine M0 (q_ld1 rfl rfl rfl rfl rfl) rfl rfl ?_;refine M0 (q_len rfl rfl rfl) rfl rfl ?_;refine M0 (q_moveC rfl rfl rfl) rfl rfl ?_;refine M0 (q_neq rfl rfl rfl rfl) rfl rfl ?_
  refine M0 (q_moveC rfl rfl rfl) rfl rfl ?_;refine M0 (Qt.grdF rfl rfl rfl .stop (fun hgrd => q_fldp rfl rfl rfl rfl (by decide))) rfl rfl ?_
  refine M0 (Qt.grdF rfl rfl rfl (.hit .stop) (fun hgrd => q_ld1 rfl rfl rfl rfl rfl)) rfl rfl ?_
  refine M0 (Qt.grdF rfl rfl rfl (.hit (.hit .stop)) (fun hgrd => q_len rfl rfl rfl)) rfl rfl ?_
  refine M0 (Qt.grdF rfl rfl rfl (.hit (.hit (.hit .stop))) (fun hgrd => q_moveC rfl rfl rfl)) rfl rfl ?_
  refine M0 (Qt.grdF rfl rfl rfl (.hit (.hit (.hit (.hit .stop)))) (fun hgrd => q_neq rfl rfl rfl rfl)) rfl rfl ?_;refine M0 (q_or rfl rfl rfl rfl) rfl rfl ?_
  refine M0 (q_moveC rfl rfl rfl) rfl rfl ?_;refine M0 (Qt.grdF rfl rfl rfl .stop (fun hgrd => q_fldp rfl rfl rfl rfl (by decide))) rfl rfl ?_
  refine M0 (Qt.grdF rfl rfl rfl (.hit .stop) (fun hgrd => q_ld1 rfl rfl rfl rfl rfl)) rfl rfl ?_
  refine M0 (Qt.grdF rfl rfl rfl (.hit (.hit .stop)) (fun hgrd => q_len rfl rfl rfl)) rfl rfl ?_
  refine M0 (Qt.grdF rfl rfl rfl (.hit (.hit (.hit .stop))) (fun hgrd => q_moveC rfl rfl rfl)) rfl rfl ?_
  refine M0 (Qt.grdF rfl rfl rfl (.hit (.hit (.hit (.hit .stop)))) (fun hgrd => q_neq rfl rfl rfl rfl)) rfl rfl ?_;refine M0 (q_or rfl rfl rfl rfl) rfl rfl ?_;refine L_nil ?_
  refine T_n ?_
  refine A_cond rfl (fun h1 => ?_) (fun h1 => ?_)
  · simp only [Bool.or_eq_true,decide_eq_true_eq] at h1
    rw [show linksM x = false from dF fun hp => by obtain ⟨⟨a,b,c⟩,_⟩ := hp; omega]
    refine A_seq (A_region ?_);refine M0 (q_assignC rfl rfl rfl) rfl rfl ?_;refine L_nil (T_n (A_ret (T_r (F_r ?_))))
    exact E_tmp rfl rfl (W_end [] (by decide) rfl rfl rfl)
  simp only [Bool.or_eq_false_iff,decide_eq_false_iff_not,Classical.not_not] at h1
  obtain ⟨⟨l1,l2⟩,l3⟩ := h1
  refine AWP.pre (st' := (⟨_,[(1,.o (.c (.ptr 0 0))),(3,I (els x.Peers).length)],[.box ((Enc.e x).map (V1.rd []))]⟩ : St)) ?_ (W_go [0] (by decide) rfl (rfl) (.cons rfl (.cons rfl (.nil))))
  refine A_skip (T_n (A_seq (A_seq (A_region ?_))));refine M0 (q_assignC rfl rfl rfl) rfl rfl ?_;refine L_nil (T_n (A_block ?_))
  refine A_loop (fun m st => ∃ i : Nat,i + m = x.Peers.length ∧ ((∀ i',i' < i → LinkLen x i' ∧ ∀ j',j' < x.Peers.length → LinkAt x i' j')) ∧ st = (fun i : Nat => (⟨_,[(1,.o (.c (.ptr 0 0))),(3,I (els x.Peers).length),(4,I i)],[.box ((Enc.e x).map (V1.rd []))]⟩ : St)) i) (x.Peers.length) ⟨(fun i : Nat => (⟨_,[(1,.o (.c (.ptr 0 0))),(3,I (els x.Peers).length),(4,I i)],[.box ((Enc.e x).map (V1.rd []))]⟩ : St)) 0,W_go [0] (by decide) rfl (rfl) (.cons rfl (.cons rfl (.cons rfl (.nil)))),0,by omega,fun i hi => absurd hi (Nat.not_lt_zero _),rfl⟩ ?_
  rintro m_A _ ⟨i,hk_A,hp_A,rfl⟩
  refine A_seq (A_seq (A_region ?_));refine M0 (q_moveC rfl rfl rfl) rfl rfl ?_;refine M0 (q_moveC rfl rfl rfl) rfl rfl ?_;refine M0 (q_lss rfl rfl rfl rfl) rfl rfl ?_
  refine L_nil (T_n ?_)
  refine A_cond rfl (fun h => ?_) (fun h => ?_)
  · have h3 : i < x.Peers.length := by have := of_decide_eq_true h; omega
    obtain ⟨ws,hws⟩ := some_at (xs := x.Wires) (i := i) (by omega)
    obtain ⟨qs,hqs⟩ := some_at (xs := x.Paces) (i := i) (by omega)
    obtain ⟨ks,hks⟩ := some_at (xs := x.Acks) (i := i) (by omega)
    obtain ⟨p,hp⟩ := some_at (xs := x.Peers) (i := i) (by omega)
    have h4 := (pin_spec (hP.2 i p hp)).1.2.2
    have h5 := hP.1
    obtain ⟨tr,ht⟩ := some_at (xs := p.Tracks) (i := i) (by omega)
    have gws := gW.2 ws (List.mem_of_getElem? hws)
    have hatW := els_some hws
    have hatQ := els_some hqs
    have hatK := els_some hks
    have hatP := els_some hp
    have hatT := els_some ht
    have hl1 := els_len ws
    have hl2 := els_len qs
    have hl3 := els_len ks
    refine A_skip (T_n (A_seq (A_block (A_seq (A_seq (A_region ?_))))));refine M0 (q_fldp rfl rfl rfl rfl (by decide)) rfl rfl ?_
    refine M0 (q_ld1 rfl rfl rfl rfl rfl) rfl rfl ?_;refine M0 (q_moveC rfl rfl rfl) rfl rfl ?_;refine M0 (q_at rfl rfl rfl rfl (by omega) (by assumption) rfl) rfl rfl ?_
    refine M0 (q_lr1 rfl rfl rfl rfl) rfl rfl ?_;refine M0 (q_len rfl rfl rfl) rfl rfl ?_;refine M0 (q_moveC rfl rfl rfl) rfl rfl ?_;refine M0 (q_neq rfl rfl rfl rfl) rfl rfl ?_
    refine M0 (q_moveC rfl rfl rfl) rfl rfl ?_;refine M0 (Qt.grdF rfl rfl rfl .stop (fun hgrd => q_fldp rfl rfl rfl rfl (by decide))) rfl rfl ?_
    refine M0 (Qt.grdF rfl rfl rfl (.hit .stop) (fun hgrd => q_ld1 rfl rfl rfl rfl rfl)) rfl rfl ?_
    refine M0 (Qt.grdF rfl rfl rfl (.hit (.hit .stop)) (fun hgrd => q_moveC rfl rfl rfl)) rfl rfl ?_
    refine M0 (Qt.grdF rfl rfl rfl (.hit (.hit (.hit .stop))) (fun hgrd => q_at rfl rfl rfl rfl (by omega) (by assumption) rfl)) rfl rfl ?_
    refine M0 (Qt.grdF rfl rfl rfl (.hit (.hit (.hit (.hit .stop)))) (fun hgrd => q_lr1 rfl rfl rfl rfl)) rfl rfl ?_
    refine M0 (Qt.grdF rfl rfl rfl (.hit (.hit (.hit (.hit (.hit .stop))))) (fun hgrd => q_len rfl rfl rfl)) rfl rfl ?_
    refine M0 (Qt.grdF rfl rfl rfl (.hit (.hit (.hit (.hit (.hit (.hit .stop)))))) (fun hgrd => q_moveC rfl rfl rfl)) rfl rfl ?_
    refine M0 (Qt.grdF rfl rfl rfl (.hit (.hit (.hit (.hit (.hit (.hit (.hit .stop))))))) (fun hgrd => q_neq rfl rfl rfl rfl)) rfl rfl ?_;refine M0 (q_or rfl rfl rfl rfl) rfl rfl ?_
    refine M0 (q_moveC rfl rfl rfl) rfl rfl ?_;refine M0 (Qt.grdF rfl rfl rfl .stop (fun hgrd => q_fldp rfl rfl rfl rfl (by decide))) rfl rfl ?_
    refine M0 (Qt.grdF rfl rfl rfl (.hit .stop) (fun hgrd => q_ld1 rfl rfl rfl rfl rfl)) rfl rfl ?_
    refine M0 (Qt.grdF rfl rfl rfl (.hit (.hit .stop)) (fun hgrd => q_moveC rfl rfl rfl)) rfl rfl ?_
    refine M0 (Qt.grdF rfl rfl rfl (.hit (.hit (.hit .stop))) (fun hgrd => q_at rfl rfl rfl rfl (by omega) (by assumption) rfl)) rfl rfl ?_
    refine M0 (Qt.grdF rfl rfl rfl (.hit (.hit (.hit (.hit .stop)))) (fun hgrd => q_lr1 rfl rfl rfl rfl)) rfl rfl ?_
    refine M0 (Qt.grdF rfl rfl rfl (.hit (.hit (.hit (.hit (.hit .stop))))) (fun hgrd => q_len rfl rfl rfl)) rfl rfl ?_
    refine M0 (Qt.grdF rfl rfl rfl (.hit (.hit (.hit (.hit (.hit (.hit .stop)))))) (fun hgrd => q_moveC rfl rfl rfl)) rfl rfl ?_
    refine M0 (Qt.grdF rfl rfl rfl (.hit (.hit (.hit (.hit (.hit (.hit (.hit .stop))))))) (fun hgrd => q_neq rfl rfl rfl rfl)) rfl rfl ?_;refine M0 (q_or rfl rfl rfl rfl) rfl rfl ?_
    refine L_nil (T_n ?_)
    refine A_cond rfl (fun h6 => ?_) (fun h6 => ?_)
    · simp only [Bool.or_eq_true,decide_eq_true_eq] at h6
      rw [show linksM x = false from dF fun hp => by obtain ⟨a,b,c⟩ := (hp.2 i h3).1 ws qs ks hws hqs hks; omega]
      refine A_seq (A_region ?_);refine M0 (q_assignC rfl rfl rfl) rfl rfl ?_;refine L_nil (T_n (A_ret (T_r (B_r (T_r (T_r ?_))))))
      refine B_r (T_r (F_r ?_))
      exact E_tmp rfl rfl (W_end [] (by decide) rfl rfl rfl)
    simp only [Bool.or_eq_false_iff,decide_eq_false_iff_not,Classical.not_not] at h6
    obtain ⟨⟨l4,l5⟩,l6⟩ := h6
    refine AWP.pre (st' := (⟨_,[(1,.o (.c (.ptr 0 0))),(3,I (els x.Peers).length),(4,I i)],[.box ((Enc.e x).map (V1.rd []))]⟩ : St)) ?_ (W_go [0] (by decide) rfl (rfl) (.cons rfl (.cons rfl (.cons rfl (.nil)))))
    refine A_skip (T_n (A_seq (A_region ?_)));refine M0 (q_assignC rfl rfl rfl) rfl rfl ?_;refine L_nil (T_n (A_block ?_))
    refine A_loop (fun m st => ∃ j : Nat,j + m = x.Peers.length ∧ ((∀ j',j' < j → LinkAt x i j')) ∧ st = (fun j : Nat => (⟨_,[(1,.o (.c (.ptr 0 0))),(3,I (els x.Peers).length),(4,I i),(5,I j)],[.box ((Enc.e x).map (V1.rd []))]⟩ : St)) j) (x.Peers.length) ⟨(fun j : Nat => (⟨_,[(1,.o (.c (.ptr 0 0))),(3,I (els x.Peers).length),(4,I i),(5,I j)],[.box ((Enc.e x).map (V1.rd []))]⟩ : St)) 0,W_go [0] (by decide) rfl (rfl) (.cons rfl (.cons rfl (.cons rfl (.cons rfl (.nil))))),0,by omega,fun i hi => absurd hi (Nat.not_lt_zero _),rfl⟩ ?_
    rintro m_D _ ⟨j,hk_D,hp_D,rfl⟩
    refine A_seq (A_seq (A_region ?_));refine M0 (q_moveC rfl rfl rfl) rfl rfl ?_;refine M0 (q_moveC rfl rfl rfl) rfl rfl ?_;refine M0 (q_lss rfl rfl rfl rfl) rfl rfl ?_
    refine L_nil (T_n ?_)
    refine A_cond rfl (fun h => ?_) (fun h => ?_)
    · have h7 : j < x.Peers.length := by have := of_decide_eq_true h; omega
      obtain ⟨w,hw⟩ := some_at (xs := ws) (i := j) (by omega)
      obtain ⟨q,hq⟩ := some_at (xs := qs) (i := j) (by omega)
      obtain ⟨a,ha⟩ := some_at (xs := ks) (i := j) (by omega)
      have hatw := els_some hw
      have hatq := els_some hq
      have hata := els_some ha
      have c1 := I_WireOk w (gws.2 w (List.mem_of_getElem? hw))
      have c2 := I_PaceOk q
      refine A_skip (T_n (A_seq (A_block (A_seq (A_seq (A_region ?_))))));refine M0 (q_fldp rfl rfl rfl rfl (by decide)) rfl rfl ?_
      refine M0 (q_ld1 rfl rfl rfl rfl rfl) rfl rfl ?_;refine M0 (q_moveC rfl rfl rfl) rfl rfl ?_;refine M0 (q_at rfl rfl rfl rfl (by omega) (by assumption) rfl) rfl rfl ?_
      refine M0 (q_lr1 rfl rfl rfl rfl) rfl rfl ?_;refine M0 (q_moveC rfl rfl rfl) rfl rfl ?_;refine M0 (q_at rfl rfl rfl rfl (by omega) (by assumption) rfl) rfl rfl ?_
      refine M0 (q_lrN rfl rfl rfl rfl rfl) rfl rfl ?_;refine M0 (q_call0 rfl rfl (c1) rfl) rfl rfl ?_;refine M0 (q_not rfl rfl rfl) rfl rfl ?_;refine M0 (q_moveC rfl rfl rfl) rfl rfl ?_
      refine M0 (Qt.grdF rfl rfl rfl .stop (fun hgrd => q_fldp rfl rfl rfl rfl (by decide))) rfl rfl ?_
      refine M0 (Qt.grdF rfl rfl rfl (.hit .stop) (fun hgrd => q_ld1 rfl rfl rfl rfl rfl)) rfl rfl ?_
      refine M0 (Qt.grdF rfl rfl rfl (.hit (.hit .stop)) (fun hgrd => q_moveC rfl rfl rfl)) rfl rfl ?_
      refine M0 (Qt.grdF rfl rfl rfl (.hit (.hit (.hit .stop))) (fun hgrd => q_at rfl rfl rfl rfl (by omega) (by assumption) rfl)) rfl rfl ?_
      refine M0 (Qt.grdF rfl rfl rfl (.hit (.hit (.hit (.hit .stop)))) (fun hgrd => q_lr1 rfl rfl rfl rfl)) rfl rfl ?_
      refine M0 (Qt.grdF rfl rfl rfl (.hit (.hit (.hit (.hit (.hit .stop))))) (fun hgrd => q_moveC rfl rfl rfl)) rfl rfl ?_
      refine M0 (Qt.grdF rfl rfl rfl (.hit (.hit (.hit (.hit (.hit (.hit .stop)))))) (fun hgrd => q_at rfl rfl rfl rfl (by omega) (by assumption) rfl)) rfl rfl ?_
      refine M0 (Qt.grdF rfl rfl rfl (.hit (.hit (.hit (.hit (.hit (.hit (.hit .stop))))))) (fun hgrd => q_lrN rfl rfl rfl rfl rfl)) rfl rfl ?_
      refine M0 (Qt.grdF rfl rfl rfl (.hit (.hit (.hit (.hit (.hit (.hit (.hit (.hit .stop)))))))) (fun hgrd => q_call0 rfl rfl (c2) rfl)) rfl rfl ?_
      refine M0 (Qt.grdF rfl rfl rfl (.hit (.hit (.hit (.hit (.hit (.hit (.hit (.hit (.hit .stop))))))))) (fun hgrd => q_not rfl rfl rfl)) rfl rfl ?_
      refine M0 (q_or rfl rfl rfl rfl) rfl rfl ?_;refine L_nil (T_n ?_)
      refine A_cond rfl (fun h8 => ?_) (fun h8 => ?_)
      · rw [show linksM x = false from dF fun hl => by obtain ⟨b,c,_⟩ := link_spec hws hqs hks hp hw hq ha ht ((hl.2 i h3).2 j h7); rw [b,c] at h8; exact absurd h8 (by decide)]
        refine A_seq (A_region ?_);refine M0 (q_assignC rfl rfl rfl) rfl rfl ?_;refine L_nil (T_n (A_ret (T_r (B_r (T_r (T_r ?_))))))
        refine B_r (B_r (T_r (T_r (B_r (T_r (F_r ?_))))))
        exact E_tmp rfl rfl (W_end [] (by decide) rfl rfl rfl)
      refine AWP.pre (st' := (⟨_,[(1,.o (.c (.ptr 0 0))),(3,I (els x.Peers).length),(4,I i),(5,I j)],[.box ((Enc.e x).map (V1.rd []))]⟩ : St)) ?_ (W_go [0] (by decide) rfl (rfl) (.cons rfl (.cons rfl (.cons rfl (.cons rfl (.nil))))))
      have c3 := I_between a 0 (els tr.Inputs).length
      cases hr : inR a 0 (els tr.Inputs).length with
      | false =>
        rw [hr] at c3
        rw [show linksM x = false from dF fun hl => by obtain ⟨_,_,b⟩ := link_spec hws hqs hks hp hw hq ha ht ((hl.2 i h3).2 j h7); rw [hr] at b; cases b]
        refine A_skip (T_n (A_seq ?_))
        refine A_draw [[],[0],[],[0,1,2],[0,1,2,3],[],[0,1,2,3,4,5],[0,1,2,3,4,5,6],[],[8],[],[8,9,10],[8,9,10,11],[8,9,10,11,12],[],[8,9,10,11,12,13,14],[8,9,10,11,12,13,14,15],[8,9,10,11,12,13,14,15,16],[8,9,10,11,12,13,14,15,16,17],[0,1,2,3,4,5,6,7,8,9,10,11,12,13,14,15,16,17,18],[0,1,2,3,4,5,6,7,8,9,10,11,12,13,14,15,16,17,18,19]] [[],[88],[],[88,89,90],[88,89,90,91],[],[88,89,90,91,92,93],[88,89,90,91,92,93,94],[],[96],[],[96,97,98],[96,97,98,99],[96,97,98,99,100],[],[96,97,98,99,100,101,102],[96,97,98,99,100,101,102,103],[96,97,98,99,100,101,102,103,104],[96,97,98,99,100,101,102,103,104,105],[88,89,90,91,92,93,94,95,96,97,98,99,100,101,102,103,104,105,106],[88,89,90,91,92,93,94,95,96,97,98,99,100,101,102,103,104,105,106,107]] [[90,93,96,97,98,99,100,101,102,103,104,105,106],[90,93,96,97,98,99,100,101,102,103,104,105,106],[88,89,93,96,97,98,99,100,101,102,103,104,105,106],[93,96,97,98,99,100,101,102,103,104,105,106],[93,96,97,98,99,100,101,102,103,104,105,106],[88,89,90,91,92,96,97,98,99,100,101,102,103,104,105,106],[96,97,98,99,100,101,102,103,104,105,106],[96,97,98,99,100,101,102,103,104,105,106],[88,89,90,91,92,93,94,95,98,102],[88,89,90,91,92,93,94,95,98,102],[88,89,90,91,92,93,94,95,96,97,102],[88,89,90,91,92,93,94,95,102],[88,89,90,91,92,93,94,95,102],[88,89,90,91,92,93,94,95,102],[88,89,90,91,92,93,94,95,96,97,98,99,100,101],[88,89,90,91,92,93,94,95],[88,89,90,91,92,93,94,95],[88,89,90,91,92,93,94,95],[88,89,90,91,92,93,94,95],[],[],[2,5]] rfl ?_
        refine DR.step (q_fldp rfl rfl rfl rfl (by decide)) rfl rfl ?_;refine DR.step (q_ld1 rfl rfl rfl rfl rfl) rfl rfl ?_;refine DR.step (q_moveC rfl rfl rfl) rfl rfl ?_
        refine DR.step (q_at rfl rfl rfl rfl (by omega) (by assumption) rfl) rfl rfl ?_;refine DR.step (q_lr1 rfl rfl rfl rfl) rfl rfl ?_;refine DR.step (q_moveC rfl rfl rfl) rfl rfl ?_
        refine DR.step (q_at rfl rfl rfl rfl (by omega) (by assumption) rfl) rfl rfl ?_;refine DR.step (q_lr1 rfl rfl rfl rfl) rfl rfl ?_
        refine DR.step (q_fldp rfl rfl rfl rfl (by decide)) rfl rfl ?_;refine DR.step (q_ld1 rfl rfl rfl rfl rfl) rfl rfl ?_;refine DR.step (q_moveC rfl rfl rfl) rfl rfl ?_
        refine DR.step (q_at rfl rfl rfl rfl (by omega) (by assumption) rfl) rfl rfl ?_;refine DR.step (q_fldr rfl rfl rfl rfl (by decide)) rfl rfl ?_
        refine DR.step (q_lr1 rfl rfl rfl rfl) rfl rfl ?_;refine DR.step (q_moveC rfl rfl rfl) rfl rfl ?_;refine DR.step (q_at rfl rfl rfl rfl (by omega) (by assumption) rfl) rfl rfl ?_
        refine DR.step (q_fldr rfl rfl rfl rfl (by decide)) rfl rfl ?_;refine DR.step (q_lr1 rfl rfl rfl rfl) rfl rfl ?_;refine DR.step (q_len rfl rfl rfl) rfl rfl ?_
        refine DR.step (q_call0 rfl rfl (c3) rfl) rfl rfl ?_;refine DR.step (q_not rfl rfl rfl) rfl rfl ?_;refine DR.stop (by kernel_rfl) (by kernel_rfl) ?_
        refine L_nil (T_n ?_);refine A_ifT rfl ?_;refine A_seq (A_region ?_);refine M0 (q_assignC rfl rfl rfl) rfl rfl ?_;refine L_nil (T_n (A_ret (B_r ?_)))
        refine T_r (T_r (B_r (B_r (T_r (T_r (B_r (T_r (F_r ?_))))))))
        exact E_tmp rfl rfl (W_end [] (by decide) rfl rfl rfl)
      | true =>
        rw [hr] at c3
        refine A_skip (T_n (A_seq ?_))
        refine A_draw [[],[0],[],[0,1,2],[0,1,2,3],[],[0,1,2,3,4,5],[0,1,2,3,4,5,6],[],[8],[],[8,9,10],[8,9,10,11],[8,9,10,11,12],[],[8,9,10,11,12,13,14],[8,9,10,11,12,13,14,15],[8,9,10,11,12,13,14,15,16],[8,9,10,11,12,13,14,15,16,17],[0,1,2,3,4,5,6,7,8,9,10,11,12,13,14,15,16,17,18],[0,1,2,3,4,5,6,7,8,9,10,11,12,13,14,15,16,17,18,19]] [[],[88],[],[88,89,90],[88,89,90,91],[],[88,89,90,91,92,93],[88,89,90,91,92,93,94],[],[96],[],[96,97,98],[96,97,98,99],[96,97,98,99,100],[],[96,97,98,99,100,101,102],[96,97,98,99,100,101,102,103],[96,97,98,99,100,101,102,103,104],[96,97,98,99,100,101,102,103,104,105],[88,89,90,91,92,93,94,95,96,97,98,99,100,101,102,103,104,105,106],[88,89,90,91,92,93,94,95,96,97,98,99,100,101,102,103,104,105,106,107]] [[90,93,96,97,98,99,100,101,102,103,104,105,106],[90,93,96,97,98,99,100,101,102,103,104,105,106],[88,89,93,96,97,98,99,100,101,102,103,104,105,106],[93,96,97,98,99,100,101,102,103,104,105,106],[93,96,97,98,99,100,101,102,103,104,105,106],[88,89,90,91,92,96,97,98,99,100,101,102,103,104,105,106],[96,97,98,99,100,101,102,103,104,105,106],[96,97,98,99,100,101,102,103,104,105,106],[88,89,90,91,92,93,94,95,98,102],[88,89,90,91,92,93,94,95,98,102],[88,89,90,91,92,93,94,95,96,97,102],[88,89,90,91,92,93,94,95,102],[88,89,90,91,92,93,94,95,102],[88,89,90,91,92,93,94,95,102],[88,89,90,91,92,93,94,95,96,97,98,99,100,101],[88,89,90,91,92,93,94,95],[88,89,90,91,92,93,94,95],[88,89,90,91,92,93,94,95],[88,89,90,91,92,93,94,95],[],[],[2,5]] rfl ?_
        refine DR.step (q_fldp rfl rfl rfl rfl (by decide)) rfl rfl ?_;refine DR.step (q_ld1 rfl rfl rfl rfl rfl) rfl rfl ?_;refine DR.step (q_moveC rfl rfl rfl) rfl rfl ?_
        refine DR.step (q_at rfl rfl rfl rfl (by omega) (by assumption) rfl) rfl rfl ?_;refine DR.step (q_lr1 rfl rfl rfl rfl) rfl rfl ?_;refine DR.step (q_moveC rfl rfl rfl) rfl rfl ?_
        refine DR.step (q_at rfl rfl rfl rfl (by omega) (by assumption) rfl) rfl rfl ?_;refine DR.step (q_lr1 rfl rfl rfl rfl) rfl rfl ?_
        refine DR.step (q_fldp rfl rfl rfl rfl (by decide)) rfl rfl ?_;refine DR.step (q_ld1 rfl rfl rfl rfl rfl) rfl rfl ?_;refine DR.step (q_moveC rfl rfl rfl) rfl rfl ?_
        refine DR.step (q_at rfl rfl rfl rfl (by omega) (by assumption) rfl) rfl rfl ?_;refine DR.step (q_fldr rfl rfl rfl rfl (by decide)) rfl rfl ?_
        refine DR.step (q_lr1 rfl rfl rfl rfl) rfl rfl ?_;refine DR.step (q_moveC rfl rfl rfl) rfl rfl ?_;refine DR.step (q_at rfl rfl rfl rfl (by omega) (by assumption) rfl) rfl rfl ?_
        refine DR.step (q_fldr rfl rfl rfl rfl (by decide)) rfl rfl ?_;refine DR.step (q_lr1 rfl rfl rfl rfl) rfl rfl ?_;refine DR.step (q_len rfl rfl rfl) rfl rfl ?_
        refine DR.step (q_call0 rfl rfl (c3) rfl) rfl rfl ?_;refine DR.step (q_not rfl rfl rfl) rfl rfl ?_;refine DR.stop (by kernel_rfl) (by kernel_rfl) ?_
        refine L_nil (T_n ?_);refine A_ifF rfl ?_;refine A_skip (B_n (T_n (A_region ?_)));refine M0 (q_moveC rfl rfl rfl) rfl rfl ?_
        refine M0 (q_add rfl rfl rfl rfl (by omega)) rfl rfl ?_;refine M0 (q_assignC rfl rfl rfl) rfl rfl ?_;refine L_nil (T_n ?_)
        exact ⟨x.Peers.length - (j + 1),by omega,(fun j : Nat => (⟨_,[(1,.o (.c (.ptr 0 0))),(3,I (els x.Peers).length),(4,I i),(5,I j)],[.box ((Enc.e x).map (V1.rd []))]⟩ : St)) (j + 1),W_go [0] (by decide) rfl (rfl) (.cons rfl (.cons rfl (.cons rfl (.cons rfl (.nil))))),j + 1,by omega,upto_next hp_D (link_yes hws hqs hks hp hw hq ha ht h8 hr),rfl⟩
    have h7 : ¬ j < x.Peers.length := by have := of_decide_eq_false h; omega
    refine A_exit (T_x (T_x (B_xs (B_n (T_n (A_region ?_))))));refine M0 (q_moveC rfl rfl rfl) rfl rfl ?_
    refine M0 (q_add rfl rfl rfl rfl (by omega)) rfl rfl ?_;refine M0 (q_assignC rfl rfl rfl) rfl rfl ?_;refine L_nil (T_n ?_)
    exact ⟨x.Peers.length - (i + 1),by omega,(fun i : Nat => (⟨_,[(1,.o (.c (.ptr 0 0))),(3,I (els x.Peers).length),(4,I i)],[.box ((Enc.e x).map (V1.rd []))]⟩ : St)) (i + 1),W_go [0] (by decide) rfl (rfl) (.cons rfl (.cons rfl (.cons rfl (.nil)))),i + 1,by omega,upto_next hp_A ⟨link_len hws hqs hks (by omega) (by omega) (by omega),fun j' hj => hp_D j' (by omega)⟩,rfl⟩
  have h3 : ¬ i < x.Peers.length := by have := of_decide_eq_false h; omega
  rw [show linksM x = true from dT ⟨⟨by omega,by omega,by omega⟩,fun i' hi => hp_A i' (by omega)⟩]
  refine A_exit (T_x (T_x (B_xs (T_n (A_seq (A_region ?_))))));refine M0 (q_assignC rfl rfl rfl) rfl rfl ?_;refine L_nil (T_n ?_)
  refine A_ret (F_r ?_)
  exact E_tmp rfl rfl (W_end [] (by decide) rfl rfl rfl)
section
variable {m : TMatch} {s : TSpectator} {l : TWire}
theorem win_spec (h : watcherIn m s l = true) : (wireOk l = true ∧ worldOk s.World = true) ∧ s.World.Level = m.Level ∧ (s.World.Scores.length : Int) = (m.Scripts.length : Int) := by
  simp only [watcherIn,Bool.and_eq_true,decide_eq_true_eq] at h
  exact h
theorem win_no1 (h : (!wireOk l || !worldOk s.World) = true) : ¬ watcherIn m s l = true := fun hp => by
  obtain ⟨⟨a,b⟩,_⟩ := win_spec hp
  rw [a,b] at h
  exact absurd h (by decide)
theorem win_no2 (h : (!decide (s.World.Level = m.Level) || decide (((els s.World.Scores).length : Int) ≠ ((els m.Scripts).length : Int))) = true) : ¬ watcherIn m s l = true := fun hp => by
  obtain ⟨_,a,b⟩ := win_spec hp
  rw [decide_eq_true a,els_len,els_len,decide_eq_false (fun q => q b)] at h
  exact absurd h (by decide)
theorem win_yes (h : (!wireOk l || !worldOk s.World) = false) (h2 : (!decide (s.World.Level = m.Level) || decide (((els s.World.Scores).length : Int) ≠ ((els m.Scripts).length : Int))) = false) : watcherIn m s l = true := by
  simp only [Bool.or_eq_false_iff,Bool.not_eq_false',decide_eq_false_iff_not,Classical.not_not,decide_eq_true_eq,els_len] at h h2
  simp only [watcherIn,Bool.and_eq_true,decide_eq_true_eq]
  exact ⟨h,h2⟩
end
set_option maxHeartbeats 8000000 in
theorem I_watchersOk (x : TMatch) (hg : Enc.gd x) : Con Tryz.prog 41 [] [ag x] [] (B (watchersM x)) := by
  obtain ⟨gL,gS,gD,gSc,gP,gW,gPa,gA,gC,gWa,gLi,gAl,gB⟩ := hg
  have hlp := els_len x.Watchers
  have hll := els_len x.Lines
  have hx := gWa.1
  refine Con.of Tryz.func41 rfl Tryz.ntmps41 rfl (fun E => ?_)
  refine A_seq (A_region ?_);refine M1 (q_boxN rfl rfl rfl rfl) rfl rfl ?_;refine M0 (q_assignC rfl rfl rfl) rfl rfl ?_;refine L_nil (T_n (A_seq (A_seq ?_)))
  refine A_region ?_;refine M0 (q_fldp rfl rfl rfl rfl (by decide)) rfl rfl ?_;refine M0 (q_ld1 rfl rfl rfl rfl rfl) rfl rfl ?_;refine M0 (q_len rfl rfl rfl) rfl rfl ?_
  refine M0 (q_gtr rfl rfl rfl rfl) rfl rfl ?_;refine M0 (q_moveC rfl rfl rfl) rfl rfl ?_
  refine M0 (Qt.grdF rfl rfl rfl .stop (fun hgrd => q_fldp rfl rfl rfl rfl (by decide))) rfl rfl ?_
  refine M0 (Qt.grdF rfl rfl rfl (.hit .stop) (fun hgrd => q_ld1 rfl rfl rfl rfl rfl)) rfl rfl ?_
  refine M0 (Qt.grdF rfl rfl rfl (.hit (.hit .stop)) (fun hgrd => q_len rfl rfl rfl)) rfl rfl ?_
  refine M0 (Qt.grdF rfl rfl rfl (.hit (.hit (.hit .stop))) (fun hgrd => q_fldp rfl rfl rfl rfl (by decide))) rfl rfl ?_
  refine M0 (Qt.grdF rfl rfl rfl (.hit (.hit (.hit (.hit .stop)))) (fun hgrd => q_ld1 rfl rfl rfl rfl rfl)) rfl rfl ?_
  refine M0 (Qt.grdF rfl rfl rfl (.hit (.hit (.hit (.hit (.hit .stop))))) (fun hgrd => q_len rfl rfl rfl)) rfl rfl ?_
  refine M0 (Qt.grdF rfl rfl rfl (.hit (.hit (.hit (.hit (.hit (.hit .stop)))))) (fun hgrd => q_neq rfl rfl rfl rfl)) rfl rfl ?_;refine M0 (q_or rfl rfl rfl rfl) rfl rfl ?_
  refine L_nil (T_n ?_)
  refine A_cond rfl (fun h1 => ?_) (fun h1 => ?_)
  · simp only [Bool.or_eq_true,decide_eq_true_eq] at h1
    rw [show watchersM x = false from dF fun hp => by obtain ⟨⟨a,b⟩,_⟩ := hp; omega]
    refine A_seq (A_region ?_);refine M0 (q_assignC rfl rfl rfl) rfl rfl ?_;refine L_nil (T_n (A_ret (T_r (F_r ?_))))
    exact E_tmp rfl rfl (W_end [] (by decide) rfl rfl rfl)
  simp only [Bool.or_eq_false_iff,decide_eq_false_iff_not,Classical.not_not] at h1
  obtain ⟨l1,l2⟩ := h1
  refine AWP.pre (st' := (⟨_,[(1,.o (.c (.ptr 0 0)))],[.box ((Enc.e x).map (V1.rd []))]⟩ : St)) ?_ (W_go [0] (by decide) rfl (rfl) (.cons rfl (.nil)))
  refine A_skip (T_n (A_seq (A_seq (A_region ?_))));refine M0 (q_fldp rfl rfl rfl rfl (by decide)) rfl rfl ?_
  refine M0 (q_ld1 rfl rfl rfl rfl rfl) rfl rfl ?_;refine M0 (q_len rfl rfl rfl) rfl rfl ?_;refine M0 (q_moveC rfl rfl rfl) rfl rfl ?_;refine L_nil (T_n (A_block ?_))
  refine A_loop (fun m st => ∃ k : Nat,k + m = x.Watchers.length ∧ ((∀ i,i < k → ∀ s l,x.Watchers[i]? = some s → x.Lines[i]? = some l → watcherIn x s l = true)) ∧ st = (fun k : Nat => (⟨_,[(1,.o (.c (.ptr 0 0))),(19,L x.Watchers),(20,I (els x.Watchers).length),(21,I k)],[.box ((Enc.e x).map (V1.rd []))]⟩ : St)) k) (x.Watchers.length) ⟨(fun k : Nat => (⟨_,[(1,.o (.c (.ptr 0 0))),(19,L x.Watchers),(20,I (els x.Watchers).length),(21,I k)],[.box ((Enc.e x).map (V1.rd []))]⟩ : St)) 0,W_go [0] (by decide) rfl (rfl) (.cons rfl (.cons rfl (.cons rfl (.cons rfl (.nil))))),0,by omega,fun i hi => absurd hi (Nat.not_lt_zero _),rfl⟩ ?_
  rintro m_A _ ⟨k,hk_A,hp_A,rfl⟩
  refine A_seq (A_region ?_);refine M0 (q_lss rfl rfl rfl rfl) rfl rfl ?_;refine L_nil (T_n (A_seq ?_))
  refine A_cond rfl (fun h => ?_) (fun h => ?_)
  · have h3 : k < x.Watchers.length := by have := of_decide_eq_true h; omega
    obtain ⟨s,hs⟩ := some_at (xs := x.Watchers) (i := k) (by omega)
    obtain ⟨l,hl⟩ := some_at (xs := x.Lines) (i := k) (by omega)
    have hat := els_some hs
    have hatL := els_some hl
    have gs := gWa.2 s (List.mem_of_getElem? hs)
    have c1 := I_WireOk l (gLi.2 l (List.mem_of_getElem? hl))
    have c2 := I_WorldOk s.World gs.1
    have c3 := I_sameLevel s.World.Level x.Level gs.1.1
    refine A_skip (T_n (A_seq (A_block (A_seq (A_region ?_)))));refine M0 (q_moveC rfl rfl rfl) rfl rfl ?_
    refine M0 (q_at rfl rfl rfl rfl (by omega) (by assumption) rfl) rfl rfl ?_;refine M0 (q_lrN rfl rfl rfl rfl rfl) rfl rfl ?_;refine M1 (q_alloc rfl rfl rfl) rfl rfl ?_
    refine M0 (q_assignC rfl rfl rfl) rfl rfl ?_;refine M_stN rfl rfl rfl rfl rfl rfl rfl rfl rfl ?_;refine L_nil (T_n (A_seq (A_seq (A_region ?_))))
    refine M0 (q_fldp rfl rfl rfl rfl (by decide)) rfl rfl ?_;refine M0 (q_ld1 rfl rfl rfl rfl rfl) rfl rfl ?_;refine M0 (q_moveC rfl rfl rfl) rfl rfl ?_
    refine M0 (q_at rfl rfl rfl rfl (by omega) (by assumption) rfl) rfl rfl ?_;refine M0 (q_lrN rfl rfl rfl rfl rfl) rfl rfl ?_;refine M0 (q_call0 rfl rfl (c1) rfl) rfl rfl ?_
    refine M0 (q_not rfl rfl rfl) rfl rfl ?_;refine M0 (q_moveC rfl rfl rfl) rfl rfl ?_;refine M0 (Qt.grdF rfl rfl rfl .stop (fun hgrd => q_fldp rfl rfl rfl rfl (by decide))) rfl rfl ?_
    refine M0 (Qt.grdF rfl rfl rfl (.hit .stop) (fun hgrd => q_ldN rfl rfl rfl rfl rfl rfl)) rfl rfl ?_
    refine M0 (Qt.grdF rfl rfl rfl (.hit (.hit .stop)) (fun hgrd => q_call0 rfl rfl (c2) rfl)) rfl rfl ?_
    refine M0 (Qt.grdF rfl rfl rfl (.hit (.hit (.hit .stop))) (fun hgrd => q_not rfl rfl rfl)) rfl rfl ?_;refine M0 (q_or rfl rfl rfl rfl) rfl rfl ?_;refine L_nil (T_n ?_)
    refine A_cond rfl (fun h4 => ?_) (fun h4 => ?_)
    · rw [show watchersM x = false from dF fun hp => win_no1 h4 (hp.2 k s l hs hl)]
      refine A_seq (A_region ?_);refine M0 (q_assignC rfl rfl rfl) rfl rfl ?_;refine L_nil (T_n (A_ret (T_r (B_r (T_r (T_r ?_))))))
      refine B_r (T_r (F_r ?_))
      exact E_tmp rfl rfl (W_end [] (by decide) rfl rfl rfl)
    refine AWP.pre (st' := (⟨_,[(1,.o (.c (.ptr 0 0))),(19,L x.Watchers),(20,I (els x.Watchers).length),(21,I k),(4,.o (.c (.ptr 1 0)))],[.box ((Enc.e x).map (V1.rd [])),.box ((Enc.e s).map (V1.rd []))]⟩ : St)) ?_ (W_go [0,1] (by decide) rfl (rfl) (.cons rfl (.cons rfl (.cons rfl (.cons rfl (.cons rfl (.nil)))))))
    refine A_skip (T_n (A_seq (A_region ?_)));refine M0 (q_fldp rfl rfl rfl rfl (by decide)) rfl rfl ?_;refine M0 (q_fldp rfl rfl rfl rfl (by decide)) rfl rfl ?_
    refine M0 (q_ldN rfl rfl rfl rfl rfl rfl) rfl rfl ?_;refine M0 (q_fldp rfl rfl rfl rfl (by decide)) rfl rfl ?_;refine M0 (q_ldN rfl rfl rfl rfl rfl rfl) rfl rfl ?_
    refine M0 (q_call0 rfl rfl (c3) rfl) rfl rfl ?_;refine M0 (q_not rfl rfl rfl) rfl rfl ?_;refine M0 (q_moveC rfl rfl rfl) rfl rfl ?_
    refine M0 (Qt.grdF rfl rfl rfl .stop (fun hgrd => q_fldp rfl rfl rfl rfl (by decide))) rfl rfl ?_
    refine M0 (Qt.grdF rfl rfl rfl (.hit .stop) (fun hgrd => q_fldp rfl rfl rfl rfl (by decide))) rfl rfl ?_
    refine M0 (Qt.grdF rfl rfl rfl (.hit (.hit .stop)) (fun hgrd => q_ld1 rfl rfl rfl rfl rfl)) rfl rfl ?_
    refine M0 (Qt.grdF rfl rfl rfl (.hit (.hit (.hit .stop))) (fun hgrd => q_len rfl rfl rfl)) rfl rfl ?_
    refine M0 (Qt.grdF rfl rfl rfl (.hit (.hit (.hit (.hit .stop)))) (fun hgrd => q_fldp rfl rfl rfl rfl (by decide))) rfl rfl ?_
    refine M0 (Qt.grdF rfl rfl rfl (.hit (.hit (.hit (.hit (.hit .stop))))) (fun hgrd => q_ld1 rfl rfl rfl rfl rfl)) rfl rfl ?_
    refine M0 (Qt.grdF rfl rfl rfl (.hit (.hit (.hit (.hit (.hit (.hit .stop)))))) (fun hgrd => q_len rfl rfl rfl)) rfl rfl ?_
    refine M0 (Qt.grdF rfl rfl rfl (.hit (.hit (.hit (.hit (.hit (.hit (.hit .stop))))))) (fun hgrd => q_neq rfl rfl rfl rfl)) rfl rfl ?_;refine M0 (q_or rfl rfl rfl rfl) rfl rfl ?_
    refine L_nil (T_n ?_)
    refine A_cond rfl (fun h5 => ?_) (fun h5 => ?_)
    · rw [show watchersM x = false from dF fun hp => win_no2 h5 (hp.2 k s l hs hl)]
      refine A_seq (A_region ?_);refine M0 (q_assignC rfl rfl rfl) rfl rfl ?_;refine L_nil (T_n (A_ret (B_r (T_r (T_r (B_r ?_))))))
      refine T_r (F_r ?_)
      exact E_tmp rfl rfl (W_end [] (by decide) rfl rfl rfl)
    refine AWP.pre (st' := (⟨_,[(1,.o (.c (.ptr 0 0))),(19,L x.Watchers),(20,I (els x.Watchers).length),(21,I k)],[.box ((Enc.e x).map (V1.rd []))]⟩ : St)) ?_ (W_go [0] (by decide) rfl (rfl) (.cons rfl (.cons rfl (.cons rfl (.cons rfl (.nil))))))
    refine A_skip (B_n (T_n (A_region ?_)));refine M0 (q_add rfl rfl rfl rfl (by omega)) rfl rfl ?_;refine M0 (q_moveC rfl rfl rfl) rfl rfl ?_;refine L_nil ?_
    refine T_n ?_
    exact ⟨x.Watchers.length - (k + 1),by omega,(fun k : Nat => (⟨_,[(1,.o (.c (.ptr 0 0))),(19,L x.Watchers),(20,I (els x.Watchers).length),(21,I k)],[.box ((Enc.e x).map (V1.rd []))]⟩ : St)) (k + 1),W_go [0] (by decide) rfl (rfl) (.cons rfl (.cons rfl (.cons rfl (.cons rfl (.nil))))),k + 1,by omega,upto_next hp_A fun s' l' hs' hl' => by rw [hs] at hs'; rw [hl] at hl'; cases hs'; cases hl'; exact win_yes h4 h5,rfl⟩
  have h3 : ¬ k < x.Watchers.length := by have := of_decide_eq_false h; omega
  rw [show watchersM x = true from dT ⟨⟨by omega,by omega⟩,fun i s l hi hl => hp_A i (by have := (List.getElem?_eq_some_iff.1 hi).1; omega) s l hi hl⟩]
  refine A_exit (T_x (T_x (B_xs (T_n (A_seq (A_region ?_))))));refine M0 (q_assignC rfl rfl rfl) rfl rfl ?_;refine L_nil (T_n ?_)
  refine A_ret (F_r ?_)
  exact E_tmp rfl rfl (W_end [] (by decide) rfl rfl rfl)
end Go.Proofs.YtbpebmolbdplmaaGreat
end

section
set_option linter.unusedSimpArgs false
set_option linter.unusedVariables false
set_option maxRecDepth 8000
namespace Go.Proofs.YtbpebmolbdplmaaGreat
open Go.RowKit

section
variable {m : TMatch}
theorem match_I (hH : HeadP m) (hS : 1 ≤ m.Scripts.length ∧ m.Scripts.length ≤ 4) (hA : m.Scripts.all scriptOk = true) (hP : PeersP m) : (linksM m && watchersM m) = matchOk m := by
  by_cases hl : LinksP m
  · by_cases hw : WatchersP m
    · rw [show linksM m = true from dT hl,show watchersM m = true from dT hw,show matchOk m = true from dT ⟨hH,hS,hA,hP,hl,hw⟩]; rfl
    · rw [show watchersM m = false from dF hw,show matchOk m = false from dF fun ⟨_,_,_,_,_,q⟩ => hw q,Bool.and_false]
  · rw [show linksM m = false from dF hl,show matchOk m = false from dF fun ⟨_,_,_,_,q,_⟩ => hl q,Bool.false_and]
end
set_option maxHeartbeats 8000000 in
theorem I_MatchOk (x : TMatch) (hg : Enc.gd x) : Con Tryz.prog 8 [] [ag x] [] (B (matchOk x)) := by
  have hg0 := hg
  obtain ⟨gL,gS,gD,gSc,gP,gW,gPa,gA,gC,gWa,gLi,gAl,gB⟩ := hg
  have hl := els_len x.Scripts
  have hx := gSc.1
  have c1 := I_LevelOk x.Level gL
  refine Con.of Tryz.func8 rfl Tryz.ntmps8 rfl (fun E => ?_)
  refine A_seq (A_region ?_);refine M1 (q_boxN rfl rfl rfl rfl) rfl rfl ?_;refine M0 (q_assignC rfl rfl rfl) rfl rfl ?_;refine L_nil (T_n (A_seq (A_seq ?_)))
  refine A_region ?_;refine M0 (q_fldp rfl rfl rfl rfl (by decide)) rfl rfl ?_;refine M0 (q_ldN rfl rfl rfl rfl rfl rfl) rfl rfl ?_;refine M0 (q_call0 rfl rfl (c1) rfl) rfl rfl ?_
  refine M0 (q_not rfl rfl rfl) rfl rfl ?_;refine M0 (q_moveC rfl rfl rfl) rfl rfl ?_;refine M0 (Qt.grdF rfl rfl rfl .stop (fun hgrd => q_fldp rfl rfl rfl rfl (by decide))) rfl rfl ?_
  refine M0 (Qt.grdF rfl rfl rfl (.hit .stop) (fun hgrd => q_ld1 rfl rfl rfl rfl rfl)) rfl rfl ?_
  refine M0 (Qt.grdF rfl rfl rfl (.hit (.hit .stop)) (fun hgrd => q_call0 rfl rfl (I_between x.Seed 0 65535) rfl)) rfl rfl ?_
  refine M0 (Qt.grdF rfl rfl rfl (.hit (.hit (.hit .stop))) (fun hgrd => q_not rfl rfl rfl)) rfl rfl ?_;refine M0 (q_or rfl rfl rfl rfl) rfl rfl ?_
  refine M0 (q_moveC rfl rfl rfl) rfl rfl ?_;refine M0 (Qt.grdF rfl rfl rfl .stop (fun hgrd => q_fldp rfl rfl rfl rfl (by decide))) rfl rfl ?_
  refine M0 (Qt.grdF rfl rfl rfl (.hit .stop) (fun hgrd => q_ld1 rfl rfl rfl rfl rfl)) rfl rfl ?_
  refine M0 (Qt.grdF rfl rfl rfl (.hit (.hit .stop)) (fun hgrd => q_call0 rfl rfl (I_between x.Delay 0 5) rfl)) rfl rfl ?_
  refine M0 (Qt.grdF rfl rfl rfl (.hit (.hit (.hit .stop))) (fun hgrd => q_not rfl rfl rfl)) rfl rfl ?_;refine M0 (q_or rfl rfl rfl rfl) rfl rfl ?_;refine L_nil (T_n ?_)
  refine A_cond rfl (fun h1 => ?_) (fun h1 => ?_)
  · rw [show matchOk x = false from dF fun hm => by obtain ⟨⟨a,b,c,_⟩,_⟩ := hm; rw [a,b,c] at h1; exact absurd h1 (by decide)]
    refine A_seq (A_region ?_);refine M0 (q_assignC rfl rfl rfl) rfl rfl ?_;refine L_nil (T_n (A_ret (T_r (F_r ?_))))
    exact E_tmp rfl rfl (W_end [] (by decide) rfl rfl rfl)
  refine AWP.pre (st' := (⟨_,[(1,.o (.c (.ptr 0 0)))],[.box ((Enc.e x).map (V1.rd []))]⟩ : St)) ?_ (W_go [0] (by decide) rfl (rfl) (.cons rfl (.nil)))
  refine A_skip (T_n (A_seq (A_seq (A_region ?_))));refine M0 (q_fldp rfl rfl rfl rfl (by decide)) rfl rfl ?_
  refine M0 (q_ld1 rfl rfl rfl rfl rfl) rfl rfl ?_;refine M0 (q_call0 rfl rfl (I_between x.Clock 0 1000) rfl) rfl rfl ?_;refine M0 (q_not rfl rfl rfl) rfl rfl ?_
  refine M0 (q_moveC rfl rfl rfl) rfl rfl ?_;refine M0 (Qt.grdF rfl rfl rfl .stop (fun hgrd => q_fldp rfl rfl rfl rfl (by decide))) rfl rfl ?_
  refine M0 (Qt.grdF rfl rfl rfl (.hit .stop) (fun hgrd => q_ld1 rfl rfl rfl rfl rfl)) rfl rfl ?_
  refine M0 (Qt.grdF rfl rfl rfl (.hit (.hit .stop)) (fun hgrd => q_call0 rfl rfl (I_between x.Bad 0 1000000) rfl)) rfl rfl ?_
  refine M0 (Qt.grdF rfl rfl rfl (.hit (.hit (.hit .stop))) (fun hgrd => q_not rfl rfl rfl)) rfl rfl ?_;refine M0 (q_or rfl rfl rfl rfl) rfl rfl ?_;refine L_nil (T_n ?_)
  refine A_cond rfl (fun h2 => ?_) (fun h2 => ?_)
  · rw [show matchOk x = false from dF fun hm => by obtain ⟨⟨_,_,_,a,b⟩,_⟩ := hm; rw [a,b] at h2; exact absurd h2 (by decide)]
    refine A_seq (A_region ?_);refine M0 (q_assignC rfl rfl rfl) rfl rfl ?_;refine L_nil (T_n (A_ret (T_r (F_r ?_))))
    exact E_tmp rfl rfl (W_end [] (by decide) rfl rfl rfl)
  refine AWP.pre (st' := (⟨_,[(1,.o (.c (.ptr 0 0)))],[.box ((Enc.e x).map (V1.rd []))]⟩ : St)) ?_ (W_go [0] (by decide) rfl (rfl) (.cons rfl (.nil)))
  simp only [Bool.or_eq_false_iff,Bool.not_eq_false'] at h1 h2
  have hH : HeadP x := ⟨h1.1.1,h1.1.2,h1.2,h2.1,h2.2⟩
  refine A_skip (T_n (A_seq (A_seq (A_region ?_))));refine M0 (q_fldp rfl rfl rfl rfl (by decide)) rfl rfl ?_
  refine M0 (q_ld1 rfl rfl rfl rfl rfl) rfl rfl ?_;refine M0 (q_len rfl rfl rfl) rfl rfl ?_;refine M0 (q_lss rfl rfl rfl rfl) rfl rfl ?_;refine M0 (q_moveC rfl rfl rfl) rfl rfl ?_
  refine M0 (Qt.grdF rfl rfl rfl .stop (fun hgrd => q_fldp rfl rfl rfl rfl (by decide))) rfl rfl ?_
  refine M0 (Qt.grdF rfl rfl rfl (.hit .stop) (fun hgrd => q_ld1 rfl rfl rfl rfl rfl)) rfl rfl ?_
  refine M0 (Qt.grdF rfl rfl rfl (.hit (.hit .stop)) (fun hgrd => q_len rfl rfl rfl)) rfl rfl ?_
  refine M0 (Qt.grdF rfl rfl rfl (.hit (.hit (.hit .stop))) (fun hgrd => q_gtr rfl rfl rfl rfl)) rfl rfl ?_;refine M0 (q_or rfl rfl rfl rfl) rfl rfl ?_;refine L_nil (T_n ?_)
  refine A_cond rfl (fun h3 => ?_) (fun h3 => ?_)
  · simp only [Bool.or_eq_true,decide_eq_true_eq] at h3
    rw [show matchOk x = false from dF fun hm => by obtain ⟨_,⟨a,b⟩,_⟩ := hm; omega]
    refine A_seq (A_region ?_);refine M0 (q_assignC rfl rfl rfl) rfl rfl ?_;refine L_nil (T_n (A_ret (T_r (F_r ?_))))
    exact E_tmp rfl rfl (W_end [] (by decide) rfl rfl rfl)
  simp only [Bool.or_eq_false_iff,decide_eq_false_iff_not] at h3
  refine AWP.pre (st' := (⟨_,[(1,.o (.c (.ptr 0 0)))],[.box ((Enc.e x).map (V1.rd []))]⟩ : St)) ?_ (W_go [0] (by decide) rfl (rfl) (.cons rfl (.nil)))
  refine A_skip (T_n (A_seq (A_seq (A_region ?_))));refine M0 (q_fldp rfl rfl rfl rfl (by decide)) rfl rfl ?_
  refine M0 (q_ld1 rfl rfl rfl rfl rfl) rfl rfl ?_;refine M0 (q_len rfl rfl rfl) rfl rfl ?_;refine M0 (q_moveC rfl rfl rfl) rfl rfl ?_;refine L_nil (T_n (A_block ?_))
  refine A_loop (fun m st => ∃ k : Nat,k + m = x.Scripts.length ∧ ((x.Scripts.take k).all scriptOk = true) ∧ st = (fun k : Nat => (⟨_,[(1,.o (.c (.ptr 0 0))),(42,L x.Scripts),(43,I (els x.Scripts).length),(44,I k)],[.box ((Enc.e x).map (V1.rd []))]⟩ : St)) k) (x.Scripts.length) ⟨(fun k : Nat => (⟨_,[(1,.o (.c (.ptr 0 0))),(42,L x.Scripts),(43,I (els x.Scripts).length),(44,I k)],[.box ((Enc.e x).map (V1.rd []))]⟩ : St)) 0,W_go [0] (by decide) rfl (rfl) (.cons rfl (.cons rfl (.cons rfl (.cons rfl (.nil))))),0,by omega,by simp,rfl⟩ ?_
  rintro m_A _ ⟨k,hk_A,hp_A,rfl⟩
  refine A_seq (A_region ?_);refine M0 (q_lss rfl rfl rfl rfl) rfl rfl ?_;refine L_nil (T_n (A_seq ?_))
  refine A_cond rfl (fun h => ?_) (fun h => ?_)
  · have h5 : k < x.Scripts.length := by have := of_decide_eq_true h; omega
    have hat := els_at h5
    have hc := I_scriptOk x.Scripts[k] (gSc.2 _ (List.getElem_mem h5))
    cases ho : scriptOk x.Scripts[k] with
    | false =>
      rw [ho] at hc
      rw [show matchOk x = false from dF fun hm => by have := hm.2.2.1; rw [all_no h5 ho] at this; cases this]
      refine A_skip (T_n (A_seq (A_block (A_seq (A_region ?_)))));refine M0 (q_at rfl rfl rfl rfl (by omega) (by assumption) rfl) rfl rfl ?_
      refine M0 (q_lr1 rfl rfl rfl rfl) rfl rfl ?_;refine M0 (q_assignC rfl rfl rfl) rfl rfl ?_;refine L_nil (T_n (A_seq (A_region ?_)))
      refine M0 (q_moveC rfl rfl rfl) rfl rfl ?_;refine M0 (q_call0 rfl rfl (hc) rfl) rfl rfl ?_;refine M0 (q_not rfl rfl rfl) rfl rfl ?_;refine L_nil (T_n ?_);refine A_ifT rfl ?_
      refine A_seq (A_region ?_);refine M0 (q_assignC rfl rfl rfl) rfl rfl ?_;refine L_nil (T_n (A_ret (B_r (T_r (T_r (B_r ?_))))))
      refine T_r (F_r ?_)
      exact E_tmp rfl rfl (W_end [] (by decide) rfl rfl rfl)
    | true =>
      rw [ho] at hc
      refine A_skip (T_n (A_seq (A_block (A_seq (A_region ?_)))));refine M0 (q_at rfl rfl rfl rfl (by omega) (by assumption) rfl) rfl rfl ?_
      refine M0 (q_lr1 rfl rfl rfl rfl) rfl rfl ?_;refine M0 (q_assignC rfl rfl rfl) rfl rfl ?_;refine L_nil (T_n (A_seq (A_region ?_)))
      refine M0 (q_moveC rfl rfl rfl) rfl rfl ?_;refine M0 (q_call0 rfl rfl (hc) rfl) rfl rfl ?_;refine M0 (q_not rfl rfl rfl) rfl rfl ?_;refine L_nil (T_n ?_);refine A_ifF rfl ?_
      refine A_skip (B_n (T_n (A_region ?_)));refine M0 (q_add rfl rfl rfl rfl (by omega)) rfl rfl ?_;refine M0 (q_moveC rfl rfl rfl) rfl rfl ?_;refine L_nil ?_
      refine T_n ?_
      exact ⟨x.Scripts.length - (k + 1),by omega,(fun k : Nat => (⟨_,[(1,.o (.c (.ptr 0 0))),(42,L x.Scripts),(43,I (els x.Scripts).length),(44,I k)],[.box ((Enc.e x).map (V1.rd []))]⟩ : St)) (k + 1),W_go [0] (by decide) rfl (rfl) (.cons rfl (.cons rfl (.cons rfl (.cons rfl (.nil))))),k + 1,by omega,all_next hp_A h5 ho,rfl⟩
  have h5 : ¬ k < x.Scripts.length := by have := of_decide_eq_false h; omega
  have hA := all_end hp_A (by omega)
  have cp := I_peersOk x hg0
  have cw := I_watchersOk x hg0
  refine AWP.pre (st' := (⟨_,[(1,.o (.c (.ptr 0 0)))],[.box ((Enc.e x).map (V1.rd []))]⟩ : St)) ?_ (W_go [0] (by decide) rfl (rfl) (.cons rfl (.nil)))
  by_cases hP : PeersP x
  · have cl := I_linksOk x hg0 hP
    rw [show peersM x = true from dT hP] at cp
    rw [← match_I hH (by omega) hA hP]
    refine A_exit (T_x (T_x (B_xs (T_n (A_seq (A_region ?_))))));refine M0 (q_ldN rfl rfl rfl rfl rfl rfl) rfl rfl ?_
    refine M0 (q_call0 rfl rfl (cp) rfl) rfl rfl ?_;refine M0 (q_moveC rfl rfl rfl) rfl rfl ?_;refine M_yes rfl rfl rfl ?_;refine M0 (q_ldN rfl rfl rfl rfl rfl rfl) rfl rfl ?_
    refine M_yes rfl rfl rfl ?_;refine M0 (q_call0 rfl rfl (cl) rfl) rfl rfl ?_;refine M0 (q_pickT rfl rfl rfl rfl) rfl rfl ?_;refine M0 (q_moveC rfl rfl rfl) rfl rfl ?_
    refine M0 (Qt.grdT rfl rfl rfl .stop (fun hgrd => q_ldN rfl rfl rfl rfl rfl rfl)) rfl rfl ?_
    refine M0 (Qt.grdT rfl rfl rfl (.hit .stop) (fun hgrd => q_call0 rfl rfl (cw) rfl)) rfl rfl ?_;refine M0 (q_and rfl rfl rfl rfl) rfl rfl ?_
    refine M0 (q_assignC rfl rfl rfl) rfl rfl ?_;refine L_nil (T_n (A_ret (F_r ?_)))
    exact E_tmp rfl rfl (W_end [] (by decide) rfl rfl rfl)
  · rw [show peersM x = false from dF hP] at cp
    rw [show matchOk x = false from dF fun hm => hP hm.2.2.2.1]
    refine A_exit (T_x (T_x (B_xs (T_n (A_seq (A_region ?_))))));refine M0 (q_ldN rfl rfl rfl rfl rfl rfl) rfl rfl ?_
    refine M0 (q_call0 rfl rfl (cp) rfl) rfl rfl ?_;refine M0 (q_moveC rfl rfl rfl) rfl rfl ?_;refine M_no rfl rfl rfl rfl rfl rfl ?_;refine M_no rfl rfl rfl rfl rfl rfl ?_
    refine M0 (q_pickF rfl rfl rfl rfl) rfl rfl ?_;refine M0 (q_moveC rfl rfl rfl) rfl rfl ?_;refine M_no rfl rfl rfl rfl rfl rfl ?_;refine M_no rfl rfl rfl rfl rfl rfl ?_
    refine M0 (q_pickF rfl rfl rfl rfl) rfl rfl ?_;refine M0 (q_assignC rfl rfl rfl) rfl rfl ?_;refine L_nil (T_n (A_ret (F_r ?_)))
    exact E_tmp rfl rfl (W_end [] (by decide) rfl rfl rfl)
end Go.Proofs.YtbpebmolbdplmaaGreat
end

section
set_option linter.unusedSimpArgs false
set_option linter.unusedVariables false
set_option maxRecDepth 8000
namespace Go.Proofs.YtbpebmolbdplmaaGreat
open Go.RowKit

set_option maxHeartbeats 8000000 in
theorem S_square (x : TMatch) (hg : Enc.gd x) (hP : PeersP x) : Con Tryz.prog 27 [] [ag x,ai x.Peers.length] [] (B (linksM x)) := by
  obtain ⟨gL,gS,gD,gSc,gP,gW,gPa,gA,gC,gWa,gLi,gAl,gB⟩ := hg
  have hx := gP.1
  have hlw := els_len x.Wires
  have hlq := els_len x.Paces
  have hla := els_len x.Acks
  refine Con.of Tryz.func27 rfl Tryz.ntmps27 rfl (fun E => ?_)
  refine A_seq (A_region ?_);refine M1 (q_boxN rfl rfl rfl rfl) rfl rfl ?_;refine M0 (q_assignC rfl rfl rfl) rfl rfl ?_;refine L_nil (T_n (A_seq (A_seq ?_)))
  refine A_region ?_;refine M0 (q_fldp rfl rfl rfl rfl (by decide)) rfl rfl ?_;refine M0 (q_ld1 rfl rfl rfl rfl rfl) rfl rfl ?_;refine M0 (q_len rfl rfl rfl) rfl rfl ?_
  refine M0 (q_moveC rfl rfl rfl) rfl rfl ?_;refine M0 (q_neq rfl rfl rfl rfl) rfl rfl ?_;refine M0 (q_moveC rfl rfl rfl) rfl rfl ?_
  refine M0 (Qt.grdF rfl rfl rfl .stop (fun hgrd => q_fldp rfl rfl rfl rfl (by decide))) rfl rfl ?_
  refine M0 (Qt.grdF rfl rfl rfl (.hit .stop) (fun hgrd => q_ld1 rfl rfl rfl rfl rfl)) rfl rfl ?_
  refine M0 (Qt.grdF rfl rfl rfl (.hit (.hit .stop)) (fun hgrd => q_len rfl rfl rfl)) rfl rfl ?_
  refine M0 (Qt.grdF rfl rfl rfl (.hit (.hit (.hit .stop))) (fun hgrd => q_moveC rfl rfl rfl)) rfl rfl ?_
  refine M0 (Qt.grdF rfl rfl rfl (.hit (.hit (.hit (.hit .stop)))) (fun hgrd => q_neq rfl rfl rfl rfl)) rfl rfl ?_;refine M0 (q_or rfl rfl rfl rfl) rfl rfl ?_
  refine M0 (q_moveC rfl rfl rfl) rfl rfl ?_;refine M0 (Qt.grdF rfl rfl rfl .stop (fun hgrd => q_fldp rfl rfl rfl rfl (by decide))) rfl rfl ?_
  refine M0 (Qt.grdF rfl rfl rfl (.hit .stop) (fun hgrd => q_ld1 rfl rfl rfl rfl rfl)) rfl rfl ?_
  refine M0 (Qt.grdF rfl rfl rfl (.hit (.hit .stop)) (fun hgrd => q_len rfl rfl rfl)) rfl rfl ?_
  refine M0 (Qt.grdF rfl rfl rfl (.hit (.hit (.hit .stop))) (fun hgrd => q_moveC rfl rfl rfl)) rfl rfl ?_
  refine M0 (Qt.grdF rfl rfl rfl (.hit (.hit (.hit (.hit .stop)))) (fun hgrd => q_neq rfl rfl rfl rfl)) rfl rfl ?_;refine M0 (q_or rfl rfl rfl rfl) rfl rfl ?_;refine L_nil ?_
  refine T_n ?_
  refine A_cond rfl (fun h1 => ?_) (fun h1 => ?_)
  · simp only [Bool.or_eq_true,decide_eq_true_eq] at h1
    rw [show linksM x = false from dF fun hp => by obtain ⟨⟨a,b,c⟩,_⟩ := hp; omega]
    refine A_seq (A_region ?_);refine M0 (q_assignC rfl rfl rfl) rfl rfl ?_;refine L_nil (T_n (A_ret (T_r (F_r ?_))))
    exact E_tmp rfl rfl (W_end [] (by decide) rfl rfl rfl)
  simp only [Bool.or_eq_false_iff,decide_eq_false_iff_not,Classical.not_not] at h1
  obtain ⟨⟨l1,l2⟩,l3⟩ := h1
  refine AWP.pre (st' := (⟨_,[(2,.o (.c (.ptr 0 0))),(1,I x.Peers.length)],[.box ((Enc.e x).map (V1.rd []))]⟩ : St)) ?_ (W_go [0] (by decide) rfl (rfl) (.cons rfl (.cons rfl (.nil))))
  refine A_skip (T_n (A_seq (A_seq (A_region ?_))));refine M0 (q_assignC rfl rfl rfl) rfl rfl ?_;refine L_nil (T_n (A_block ?_))
  refine A_loop (fun m st => ∃ i : Nat,i + m = x.Peers.length ∧ ((∀ i',i' < i → LinkLen x i' ∧ ∀ j',j' < x.Peers.length → LinkAt x i' j')) ∧ st = (fun i : Nat => (⟨_,[(2,.o (.c (.ptr 0 0))),(1,I x.Peers.length),(5,I i)],[.box ((Enc.e x).map (V1.rd []))]⟩ : St)) i) (x.Peers.length) ⟨(fun i : Nat => (⟨_,[(2,.o (.c (.ptr 0 0))),(1,I x.Peers.length),(5,I i)],[.box ((Enc.e x).map (V1.rd []))]⟩ : St)) 0,W_go [0] (by decide) rfl (rfl) (.cons rfl (.cons rfl (.cons rfl (.nil)))),0,by omega,fun i hi => absurd hi (Nat.not_lt_zero _),rfl⟩ ?_
  rintro m_A _ ⟨i,hk_A,hp_A,rfl⟩
  refine A_seq (A_seq (A_region ?_));refine M0 (q_moveC rfl rfl rfl) rfl rfl ?_;refine M0 (q_moveC rfl rfl rfl) rfl rfl ?_;refine M0 (q_lss rfl rfl rfl rfl) rfl rfl ?_
  refine L_nil (T_n ?_)
  refine A_cond rfl (fun h => ?_) (fun h => ?_)
  · have h3 : i < x.Peers.length := by have := of_decide_eq_true h; omega
    obtain ⟨ws,hws⟩ := some_at (xs := x.Wires) (i := i) (by omega)
    obtain ⟨qs,hqs⟩ := some_at (xs := x.Paces) (i := i) (by omega)
    obtain ⟨ks,hks⟩ := some_at (xs := x.Acks) (i := i) (by omega)
    obtain ⟨p,hp⟩ := some_at (xs := x.Peers) (i := i) (by omega)
    have h4 := (pin_spec (hP.2 i p hp)).1.2.2
    have h5 := hP.1
    obtain ⟨tr,ht⟩ := some_at (xs := p.Tracks) (i := i) (by omega)
    have gws := gW.2 ws (List.mem_of_getElem? hws)
    have hatW := els_some hws
    have hatQ := els_some hqs
    have hatK := els_some hks
    have hatP := els_some hp
    have hatT := els_some ht
    have hl1 := els_len ws
    have hl2 := els_len qs
    have hl3 := els_len ks
    refine A_skip (T_n (A_seq (A_block (A_seq (A_seq (A_region ?_))))));refine M0 (q_fldp rfl rfl rfl rfl (by decide)) rfl rfl ?_
    refine M0 (q_ld1 rfl rfl rfl rfl rfl) rfl rfl ?_;refine M0 (q_moveC rfl rfl rfl) rfl rfl ?_;refine M0 (q_at rfl rfl rfl rfl (by omega) (by assumption) rfl) rfl rfl ?_
    refine M0 (q_lr1 rfl rfl rfl rfl) rfl rfl ?_;refine M0 (q_len rfl rfl rfl) rfl rfl ?_;refine M0 (q_moveC rfl rfl rfl) rfl rfl ?_;refine M0 (q_neq rfl rfl rfl rfl) rfl rfl ?_
    refine M0 (q_moveC rfl rfl rfl) rfl rfl ?_;refine M0 (Qt.grdF rfl rfl rfl .stop (fun hgrd => q_fldp rfl rfl rfl rfl (by decide))) rfl rfl ?_
    refine M0 (Qt.grdF rfl rfl rfl (.hit .stop) (fun hgrd => q_ld1 rfl rfl rfl rfl rfl)) rfl rfl ?_
    refine M0 (Qt.grdF rfl rfl rfl (.hit (.hit .stop)) (fun hgrd => q_moveC rfl rfl rfl)) rfl rfl ?_
    refine M0 (Qt.grdF rfl rfl rfl (.hit (.hit (.hit .stop))) (fun hgrd => q_at rfl rfl rfl rfl (by omega) (by assumption) rfl)) rfl rfl ?_
    refine M0 (Qt.grdF rfl rfl rfl (.hit (.hit (.hit (.hit .stop)))) (fun hgrd => q_lr1 rfl rfl rfl rfl)) rfl rfl ?_
    refine M0 (Qt.grdF rfl rfl rfl (.hit (.hit (.hit (.hit (.hit .stop))))) (fun hgrd => q_len rfl rfl rfl)) rfl rfl ?_
    refine M0 (Qt.grdF rfl rfl rfl (.hit (.hit (.hit (.hit (.hit (.hit .stop)))))) (fun hgrd => q_moveC rfl rfl rfl)) rfl rfl ?_
    refine M0 (Qt.grdF rfl rfl rfl (.hit (.hit (.hit (.hit (.hit (.hit (.hit .stop))))))) (fun hgrd => q_neq rfl rfl rfl rfl)) rfl rfl ?_;refine M0 (q_or rfl rfl rfl rfl) rfl rfl ?_
    refine M0 (q_moveC rfl rfl rfl) rfl rfl ?_;refine M0 (Qt.grdF rfl rfl rfl .stop (fun hgrd => q_fldp rfl rfl rfl rfl (by decide))) rfl rfl ?_
    refine M0 (Qt.grdF rfl rfl rfl (.hit .stop) (fun hgrd => q_ld1 rfl rfl rfl rfl rfl)) rfl rfl ?_
    refine M0 (Qt.grdF rfl rfl rfl (.hit (.hit .stop)) (fun hgrd => q_moveC rfl rfl rfl)) rfl rfl ?_
    refine M0 (Qt.grdF rfl rfl rfl (.hit (.hit (.hit .stop))) (fun hgrd => q_at rfl rfl rfl rfl (by omega) (by assumption) rfl)) rfl rfl ?_
    refine M0 (Qt.grdF rfl rfl rfl (.hit (.hit (.hit (.hit .stop)))) (fun hgrd => q_lr1 rfl rfl rfl rfl)) rfl rfl ?_
    refine M0 (Qt.grdF rfl rfl rfl (.hit (.hit (.hit (.hit (.hit .stop))))) (fun hgrd => q_len rfl rfl rfl)) rfl rfl ?_
    refine M0 (Qt.grdF rfl rfl rfl (.hit (.hit (.hit (.hit (.hit (.hit .stop)))))) (fun hgrd => q_moveC rfl rfl rfl)) rfl rfl ?_
    refine M0 (Qt.grdF rfl rfl rfl (.hit (.hit (.hit (.hit (.hit (.hit (.hit .stop))))))) (fun hgrd => q_neq rfl rfl rfl rfl)) rfl rfl ?_;refine M0 (q_or rfl rfl rfl rfl) rfl rfl ?_
    refine L_nil (T_n ?_)
    refine A_cond rfl (fun h6 => ?_) (fun h6 => ?_)
    · simp only [Bool.or_eq_true,decide_eq_true_eq] at h6
      rw [show linksM x = false from dF fun hp => by obtain ⟨a,b,c⟩ := (hp.2 i h3).1 ws qs ks hws hqs hks; omega]
      refine A_seq (A_region ?_);refine M0 (q_assignC rfl rfl rfl) rfl rfl ?_;refine L_nil (T_n (A_ret (T_r (B_r (T_r (T_r ?_))))))
      refine B_r (T_r (F_r ?_))
      exact E_tmp rfl rfl (W_end [] (by decide) rfl rfl rfl)
    simp only [Bool.or_eq_false_iff,decide_eq_false_iff_not,Classical.not_not] at h6
    obtain ⟨⟨l4,l5⟩,l6⟩ := h6
    refine AWP.pre (st' := (⟨_,[(2,.o (.c (.ptr 0 0))),(1,I x.Peers.length),(5,I i)],[.box ((Enc.e x).map (V1.rd []))]⟩ : St)) ?_ (W_go [0] (by decide) rfl (rfl) (.cons rfl (.cons rfl (.cons rfl (.nil)))))
    refine A_skip (T_n (A_seq (A_region ?_)));refine M0 (q_assignC rfl rfl rfl) rfl rfl ?_;refine L_nil (T_n (A_block ?_))
    refine A_loop (fun m st => ∃ j : Nat,j + m = x.Peers.length ∧ ((∀ j',j' < j → LinkAt x i j')) ∧ st = (fun j : Nat => (⟨_,[(2,.o (.c (.ptr 0 0))),(1,I x.Peers.length),(5,I i),(6,I j)],[.box ((Enc.e x).map (V1.rd []))]⟩ : St)) j) (x.Peers.length) ⟨(fun j : Nat => (⟨_,[(2,.o (.c (.ptr 0 0))),(1,I x.Peers.length),(5,I i),(6,I j)],[.box ((Enc.e x).map (V1.rd []))]⟩ : St)) 0,W_go [0] (by decide) rfl (rfl) (.cons rfl (.cons rfl (.cons rfl (.cons rfl (.nil))))),0,by omega,fun i hi => absurd hi (Nat.not_lt_zero _),rfl⟩ ?_
    rintro m_D _ ⟨j,hk_D,hp_D,rfl⟩
    refine A_seq (A_seq (A_region ?_));refine M0 (q_moveC rfl rfl rfl) rfl rfl ?_;refine M0 (q_moveC rfl rfl rfl) rfl rfl ?_;refine M0 (q_lss rfl rfl rfl rfl) rfl rfl ?_
    refine L_nil (T_n ?_)
    refine A_cond rfl (fun h => ?_) (fun h => ?_)
    · have h7 : j < x.Peers.length := by have := of_decide_eq_true h; omega
      obtain ⟨w,hw⟩ := some_at (xs := ws) (i := j) (by omega)
      obtain ⟨q,hq⟩ := some_at (xs := qs) (i := j) (by omega)
      obtain ⟨a,ha⟩ := some_at (xs := ks) (i := j) (by omega)
      have hatw := els_some hw
      have hatq := els_some hq
      have hata := els_some ha
      have c1 := S_WireOk w (gws.2 w (List.mem_of_getElem? hw))
      have c2 := S_PaceOk q
      have c3 := S_in a 0 (els tr.Inputs).length
      cases hr1 : wireOk w with
      | false =>
        rw [hr1] at c1
        rw [show linksM x = false from dF fun hl => by obtain ⟨b,_,_⟩ := link_spec hws hqs hks hp hw hq ha ht ((hl.2 i h3).2 j h7); rw [hr1] at b; cases b]
        refine A_skip (T_n (A_seq (A_block (A_seq ?_))))
        refine A_draw [[],[0],[],[0,1,2],[0,1,2,3],[],[0,1,2,3,4,5],[0,1,2,3,4,5,6],[0,1,2,3,4,5,6,7],[0,1,2,3,4,5,6,7,8],[0,1,2,3,4,5,6,7,8,9],[0,1,2,3,4,5,6,7,8,9,10],[0,1,2,3,4,5,6,7,8,9,10,11],[0,1,2,3,4,5,6,7,8,9,10],[0,1,2,3,4,5,6,7,8,9,10,11,12,13],[0,1,2,3,4,5,6,7,8,9,10,11,12,13,14],[0,1,2,3,4,5,6,7,8,9,10],[0,1,2,3,4,5,6,7,8,9,10,11,12,13,14,15,16],[0,1,2,3,4,5,6,7,8,9,10,11,12,13,14,15,16,17],[0,1,2,3,4,5,6,7,8,9,10,11,12,13,14,15,16,17,18],[0,1,2,3,4,5,6,7,8,9,10,11,12,13,14,15,16,17,18,19],[0,1,2,3,4,5,6,7,8,9,10,11,12,13,14,15,16,17,18,19,20],[0,1,2,3,4,5,6,7,8,9,10,11,12,13,14,15,16,17,18,19,20,21],[0,1,2,3,4,5,6,7,8,9,10,11,12,13,14,15,16,17,18,19,20,21,22],[0,1,2,3,4,5,6,7,8,9,10,11,12,13,14,15,16,17,18,19,20,21,22,23],[0,1,2,3,4,5,6,7,8,9,10,11,12,13,14,15,16,17,18,19,20,21,22],[0,1,2,3,4,5,6,7,8,9,10,11,12,13,14,15,16,17,18,19,20,21,22,23,24,25],[0,1,2,3,4,5,6,7,8,9,10,11,12,13,14,15,16,17,18,19,20,21,22,23,24,25,26],[0,1,2,3,4,5,6,7,8,9,10,11,12,13,14,15,16,17,18,19,20,21,22],[0,1,2,3,4,5,6,7,8,9,10,11,12,13,14,15,16,17,18,19,20,21,22,23,24,25,26,27,28],[0,1,2,3,4,5,6,7,8,9,10,11,12,13,14,15,16,17,18,19,20,21,22,23,24,25,26,27,28,29],[0,1,2,3,4,5,6,7,8,9,10,11,12,13,14,15,16,17,18,19,20,21,22],[0,1,2,3,4,5,6,7,8,9,10,11,12,13,14,15,16,17,18,19,20,21,22,31],[0,1,2,3,4,5,6,7,8,9,10,11,12,13,14,15,16,17,18,19,20,21,22],[0,1,2,3,4,5,6,7,8,9,10,11,12,13,14,15,16,17,18,19,20,21,22,31,32,33],[0,1,2,3,4,5,6,7,8,9,10,11,12,13,14,15,16,17,18,19,20,21,22,31,32,33,34],[0,1,2,3,4,5,6,7,8,9,10,11,12,13,14,15,16,17,18,19,20,21,22,31,32,33,34,35],[0,1,2,3,4,5,6,7,8,9,10,11,12,13,14,15,16,17,18,19,20,21,22],[0,1,2,3,4,5,6,7,8,9,10,11,12,13,14,15,16,17,18,19,20,21,22,31,32,33,34,35,36,37],[0,1,2,3,4,5,6,7,8,9,10,11,12,13,14,15,16,17,18,19,20,21,22,31,32,33,34,35,36,37,38],[0,1,2,3,4,5,6,7,8,9,10,11,12,13,14,15,16,17,18,19,20,21,22,31,32,33,34,35,36,37,38,39],[0,1,2,3,4,5,6,7,8,9,10,11,12,13,14,15,16,17,18,19,20,21,22,31,32,33,34,35,36,37,38,39,40],[0,1,2,3,4,5,6,7,8,9,10,11,12,13,14,15,16,17,18,19,20,21,22,23,24,25,26,27,28,29,30,31,32,33,34,35,36,37,38,39,40,41],[0,1,2,3,4,5,6,7,8,9,10,11,12,13,14,15,16,17,18,19,20,21,22,23,24,25,26,27,28,29,30,31,32,33,34,35,36,37,38,39,40,41,42],[0,1,2,3,4,5,6,7,8,9,10,11,12,13,14,15,16,17,18,19,20,21,22,23,24,25,26,27,28,29,30,31,32,33,34,35,36,37,38,39,40,41,42,43]] [[],[64],[],[64,65,66],[64,65,66,67],[],[64,65,66,67,68,69],[64,65,66,67,68,69,70],[64,65,66,67,68,69,70,71],[64,65,66,67,68,69,70,71,72],[64,65,66,67,68,69,70,71,72,73],[64,65,66,67,68,69,70,71,72,73,74],[64,65,66,67,68,69,70,71,72,73,74,75],[64,65,66,67,68,69,70,71,72,73,74],[64,65,66,67,68,69,70,71,72,73,74,75,76,77],[64,65,66,67,68,69,70,71,72,73,74,75,76,77,78],[64,65,66,67,68,69,70,71,72,73,74],[64,65,66,67,68,69,70,71,72,73,74,75,76,77,78,79,80],[64,65,66,67,68,69,70,71,72,73,74,75,76,77,78,79,80,81],[64,65,66,67,68,69,70,71,72,73,74,75,76,77,78,79,80,81,82],[64,65,66,67,68,69,70,71,72,73,74,75,76,77,78,79,80,81,82,83],[64,65,66,67,68,69,70,71,72,73,74,75,76,77,78,79,80,81,82,83,84],[64,65,66,67,68,69,70,71,72,73,74,75,76,77,78,79,80,81,82,83,84,85],[64,65,66,67,68,69,70,71,72,73,74,75,76,77,78,79,80,81,82,83,84,85,86],[64,65,66,67,68,69,70,71,72,73,74,75,76,77,78,79,80,81,82,83,84,85,86,87],[64,65,66,67,68,69,70,71,72,73,74,75,76,77,78,79,80,81,82,83,84,85,86],[64,65,66,67,68,69,70,71,72,73,74,75,76,77,78,79,80,81,82,83,84,85,86,87,88,89],[64,65,66,67,68,69,70,71,72,73,74,75,76,77,78,79,80,81,82,83,84,85,86,87,88,89,90],[64,65,66,67,68,69,70,71,72,73,74,75,76,77,78,79,80,81,82,83,84,85,86],[64,65,66,67,68,69,70,71,72,73,74,75,76,77,78,79,80,81,82,83,84,85,86,87,88,89,90,91,92],[64,65,66,67,68,69,70,71,72,73,74,75,76,77,78,79,80,81,82,83,84,85,86,87,88,89,90,91,92,93],[64,65,66,67,68,69,70,71,72,73,74,75,76,77,78,79,80,81,82,83,84,85,86],[64,65,66,67,68,69,70,71,72,73,74,75,76,77,78,79,80,81,82,83,84,85,86,95],[64,65,66,67,68,69,70,71,72,73,74,75,76,77,78,79,80,81,82,83,84,85,86],[64,65,66,67,68,69,70,71,72,73,74,75,76,77,78,79,80,81,82,83,84,85,86,95,96,97],[64,65,66,67,68,69,70,71,72,73,74,75,76,77,78,79,80,81,82,83,84,85,86,95,96,97,98],[64,65,66,67,68,69,70,71,72,73,74,75,76,77,78,79,80,81,82,83,84,85,86,95,96,97,98,99],[64,65,66,67,68,69,70,71,72,73,74,75,76,77,78,79,80,81,82,83,84,85,86],[64,65,66,67,68,69,70,71,72,73,74,75,76,77,78,79,80,81,82,83,84,85,86,95,96,97,98,99,100,101],[64,65,66,67,68,69,70,71,72,73,74,75,76,77,78,79,80,81,82,83,84,85,86,95,96,97,98,99,100,101,102],[64,65,66,67,68,69,70,71,72,73,74,75,76,77,78,79,80,81,82,83,84,85,86,95,96,97,98,99,100,101,102,103],[64,65,66,67,68,69,70,71,72,73,74,75,76,77,78,79,80,81,82,83,84,85,86,95,96,97,98,99,100,101,102,103,104],[64,65,66,67,68,69,70,71,72,73,74,75,76,77,78,79,80,81,82,83,84,85,86,87,88,89,90,91,92,93,94,95,96,97,98,99,100,101,102,103,104,105],[64,65,66,67,68,69,70,71,72,73,74,75,76,77,78,79,80,81,82,83,84,85,86,87,88,89,90,91,92,93,94,95,96,97,98,99,100,101,102,103,104,105,106],[64,65,66,67,68,69,70,71,72,73,74,75,76,77,78,79,80,81,82,83,84,85,86,87,88,89,90,91,92,93,94,95,96,97,98,99,100,101,102,103,104,105,106,107]] [[66,69],[66,69],[64,65,69],[69],[69],[64,65,66,67,68],[],[],[],[],[],[77,80],[77,80],[75,76,80],[80],[80],[75,76,77,78,79],[],[],[],[],[],[],[89,92,95,96,97,98,99,100,101,102,103,104,105],[89,92,95,96,97,98,99,100,101,102,103,104,105],[87,88,92,95,96,97,98,99,100,101,102,103,104,105],[92,95,96,97,98,99,100,101,102,103,104,105],[92,95,96,97,98,99,100,101,102,103,104,105],[87,88,89,90,91,95,96,97,98,99,100,101,102,103,104,105],[95,96,97,98,99,100,101,102,103,104,105],[95,96,97,98,99,100,101,102,103,104,105],[87,88,89,90,91,92,93,94,97,101],[87,88,89,90,91,92,93,94,97,101],[87,88,89,90,91,92,93,94,95,96,101],[87,88,89,90,91,92,93,94,101],[87,88,89,90,91,92,93,94,101],[87,88,89,90,91,92,93,94,101],[87,88,89,90,91,92,93,94,95,96,97,98,99,100],[87,88,89,90,91,92,93,94],[87,88,89,90,91,92,93,94],[87,88,89,90,91,92,93,94],[87,88,89,90,91,92,93,94],[],[],[]] rfl ?_
        refine DR.step (q_fldp rfl rfl rfl rfl (by decide)) rfl rfl ?_;refine DR.step (q_ld1 rfl rfl rfl rfl rfl) rfl rfl ?_;refine DR.step (q_moveC rfl rfl rfl) rfl rfl ?_
        refine DR.step (q_at rfl rfl rfl rfl (by omega) (by assumption) rfl) rfl rfl ?_;refine DR.step (q_lr1 rfl rfl rfl rfl) rfl rfl ?_;refine DR.step (q_moveC rfl rfl rfl) rfl rfl ?_
        refine DR.step (q_at rfl rfl rfl rfl (by omega) (by assumption) rfl) rfl rfl ?_;refine DR.step (q_lrN rfl rfl rfl rfl rfl) rfl rfl ?_
        refine DR.step (q_call0 rfl rfl (c1) rfl) rfl rfl ?_;refine DR.step (q_not rfl rfl rfl) rfl rfl ?_;refine DR.step (q_moveC rfl rfl rfl) rfl rfl ?_
        refine DR.step (Qt.no rfl rfl rfl rfl) rfl rfl ?_;refine DR.step (Qt.no rfl rfl rfl rfl) rfl rfl ?_;refine DR.step (Qt.no rfl rfl rfl rfl) rfl rfl ?_
        refine DR.step (Qt.no rfl rfl rfl rfl) rfl rfl ?_;refine DR.step (Qt.no rfl rfl rfl rfl) rfl rfl ?_;refine DR.step (Qt.no rfl rfl rfl rfl) rfl rfl ?_
        refine DR.step (Qt.no rfl rfl rfl rfl) rfl rfl ?_;refine DR.step (Qt.no rfl rfl rfl rfl) rfl rfl ?_;refine DR.step (Qt.no rfl rfl rfl rfl) rfl rfl ?_
        refine DR.step (Qt.no rfl rfl rfl rfl) rfl rfl ?_;refine DR.step (q_pickT rfl rfl rfl rfl) rfl rfl ?_;refine DR.step (q_moveC rfl rfl rfl) rfl rfl ?_
        refine DR.step (Qt.no rfl rfl rfl rfl) rfl rfl ?_;refine DR.step (Qt.no rfl rfl rfl rfl) rfl rfl ?_;refine DR.step (Qt.no rfl rfl rfl rfl) rfl rfl ?_
        refine DR.step (Qt.no rfl rfl rfl rfl) rfl rfl ?_;refine DR.step (Qt.no rfl rfl rfl rfl) rfl rfl ?_;refine DR.step (Qt.no rfl rfl rfl rfl) rfl rfl ?_
        refine DR.step (Qt.no rfl rfl rfl rfl) rfl rfl ?_;refine DR.step (Qt.no rfl rfl rfl rfl) rfl rfl ?_;refine DR.step (Qt.no rfl rfl rfl rfl) rfl rfl ?_
        refine DR.step (Qt.no rfl rfl rfl rfl) rfl rfl ?_;refine DR.step (Qt.no rfl rfl rfl rfl) rfl rfl ?_;refine DR.step (Qt.no rfl rfl rfl rfl) rfl rfl ?_
        refine DR.step (Qt.no rfl rfl rfl rfl) rfl rfl ?_;refine DR.step (Qt.no rfl rfl rfl rfl) rfl rfl ?_;refine DR.step (Qt.no rfl rfl rfl rfl) rfl rfl ?_
        refine DR.step (Qt.no rfl rfl rfl rfl) rfl rfl ?_;refine DR.step (Qt.no rfl rfl rfl rfl) rfl rfl ?_;refine DR.step (Qt.no rfl rfl rfl rfl) rfl rfl ?_
        refine DR.step (Qt.no rfl rfl rfl rfl) rfl rfl ?_;refine DR.step (Qt.no rfl rfl rfl rfl) rfl rfl ?_;refine DR.step (Qt.no rfl rfl rfl rfl) rfl rfl ?_
        refine DR.step (q_pickT rfl rfl rfl rfl) rfl rfl ?_;refine DR.stop (by kernel_rfl) (by kernel_rfl) ?_
        refine L_nil (T_n ?_);refine A_ifT rfl ?_;refine A_seq (A_region ?_);refine M0 (q_assignC rfl rfl rfl) rfl rfl ?_;refine L_nil (T_n (A_ret (B_r ?_)))
        refine T_r (T_r (B_r (B_r (T_r (T_r (B_r (T_r (F_r ?_))))))))
        exact E_tmp rfl rfl (W_end [] (by decide) rfl rfl rfl)
      | true =>
        rw [hr1] at c1
        cases hr2 : paceOk q with
        | false =>
          rw [hr2] at c2
          rw [show linksM x = false from dF fun hl => by obtain ⟨_,b,_⟩ := link_spec hws hqs hks hp hw hq ha ht ((hl.2 i h3).2 j h7); rw [hr2] at b; cases b]
          refine A_skip (T_n (A_seq (A_block (A_seq ?_))))
          refine A_draw [[],[0],[],[0,1,2],[0,1,2,3],[],[0,1,2,3,4,5],[0,1,2,3,4,5,6],[0,1,2,3,4,5,6,7],[0,1,2,3,4,5,6,7,8],[0,1,2,3,4,5,6,7,8,9],[0,1,2,3,4,5,6,7,8,9,10],[0,1,2,3,4,5,6,7,8,9,10,11],[0,1,2,3,4,5,6,7,8,9,10],[0,1,2,3,4,5,6,7,8,9,10,11,12,13],[0,1,2,3,4,5,6,7,8,9,10,11,12,13,14],[0,1,2,3,4,5,6,7,8,9,10],[0,1,2,3,4,5,6,7,8,9,10,11,12,13,14,15,16],[0,1,2,3,4,5,6,7,8,9,10,11,12,13,14,15,16,17],[0,1,2,3,4,5,6,7,8,9,10,11,12,13,14,15,16,17,18],[0,1,2,3,4,5,6,7,8,9,10,11,12,13,14,15,16,17,18,19],[0,1,2,3,4,5,6,7,8,9,10,11,12,13,14,15,16,17,18,19,20],[0,1,2,3,4,5,6,7,8,9,10,11,12,13,14,15,16,17,18,19,20,21],[0,1,2,3,4,5,6,7,8,9,10,11,12,13,14,15,16,17,18,19,20,21,22],[0,1,2,3,4,5,6,7,8,9,10,11,12,13,14,15,16,17,18,19,20,21,22,23],[0,1,2,3,4,5,6,7,8,9,10,11,12,13,14,15,16,17,18,19,20,21,22],[0,1,2,3,4,5,6,7,8,9,10,11,12,13,14,15,16,17,18,19,20,21,22,23,24,25],[0,1,2,3,4,5,6,7,8,9,10,11,12,13,14,15,16,17,18,19,20,21,22,23,24,25,26],[0,1,2,3,4,5,6,7,8,9,10,11,12,13,14,15,16,17,18,19,20,21,22],[0,1,2,3,4,5,6,7,8,9,10,11,12,13,14,15,16,17,18,19,20,21,22,23,24,25,26,27,28],[0,1,2,3,4,5,6,7,8,9,10,11,12,13,14,15,16,17,18,19,20,21,22,23,24,25,26,27,28,29],[0,1,2,3,4,5,6,7,8,9,10,11,12,13,14,15,16,17,18,19,20,21,22],[0,1,2,3,4,5,6,7,8,9,10,11,12,13,14,15,16,17,18,19,20,21,22,31],[0,1,2,3,4,5,6,7,8,9,10,11,12,13,14,15,16,17,18,19,20,21,22],[0,1,2,3,4,5,6,7,8,9,10,11,12,13,14,15,16,17,18,19,20,21,22,31,32,33],[0,1,2,3,4,5,6,7,8,9,10,11,12,13,14,15,16,17,18,19,20,21,22,31,32,33,34],[0,1,2,3,4,5,6,7,8,9,10,11,12,13,14,15,16,17,18,19,20,21,22,31,32,33,34,35],[0,1,2,3,4,5,6,7,8,9,10,11,12,13,14,15,16,17,18,19,20,21,22],[0,1,2,3,4,5,6,7,8,9,10,11,12,13,14,15,16,17,18,19,20,21,22,31,32,33,34,35,36,37],[0,1,2,3,4,5,6,7,8,9,10,11,12,13,14,15,16,17,18,19,20,21,22,31,32,33,34,35,36,37,38],[0,1,2,3,4,5,6,7,8,9,10,11,12,13,14,15,16,17,18,19,20,21,22,31,32,33,34,35,36,37,38,39],[0,1,2,3,4,5,6,7,8,9,10,11,12,13,14,15,16,17,18,19,20,21,22,31,32,33,34,35,36,37,38,39,40],[0,1,2,3,4,5,6,7,8,9,10,11,12,13,14,15,16,17,18,19,20,21,22,23,24,25,26,27,28,29,30,31,32,33,34,35,36,37,38,39,40,41],[0,1,2,3,4,5,6,7,8,9,10,11,12,13,14,15,16,17,18,19,20,21,22,23,24,25,26,27,28,29,30,31,32,33,34,35,36,37,38,39,40,41,42],[0,1,2,3,4,5,6,7,8,9,10,11,12,13,14,15,16,17,18,19,20,21,22,23,24,25,26,27,28,29,30,31,32,33,34,35,36,37,38,39,40,41,42,43]] [[],[64],[],[64,65,66],[64,65,66,67],[],[64,65,66,67,68,69],[64,65,66,67,68,69,70],[64,65,66,67,68,69,70,71],[64,65,66,67,68,69,70,71,72],[64,65,66,67,68,69,70,71,72,73],[64,65,66,67,68,69,70,71,72,73,74],[64,65,66,67,68,69,70,71,72,73,74,75],[64,65,66,67,68,69,70,71,72,73,74],[64,65,66,67,68,69,70,71,72,73,74,75,76,77],[64,65,66,67,68,69,70,71,72,73,74,75,76,77,78],[64,65,66,67,68,69,70,71,72,73,74],[64,65,66,67,68,69,70,71,72,73,74,75,76,77,78,79,80],[64,65,66,67,68,69,70,71,72,73,74,75,76,77,78,79,80,81],[64,65,66,67,68,69,70,71,72,73,74,75,76,77,78,79,80,81,82],[64,65,66,67,68,69,70,71,72,73,74,75,76,77,78,79,80,81,82,83],[64,65,66,67,68,69,70,71,72,73,74,75,76,77,78,79,80,81,82,83,84],[64,65,66,67,68,69,70,71,72,73,74,75,76,77,78,79,80,81,82,83,84,85],[64,65,66,67,68,69,70,71,72,73,74,75,76,77,78,79,80,81,82,83,84,85,86],[64,65,66,67,68,69,70,71,72,73,74,75,76,77,78,79,80,81,82,83,84,85,86,87],[64,65,66,67,68,69,70,71,72,73,74,75,76,77,78,79,80,81,82,83,84,85,86],[64,65,66,67,68,69,70,71,72,73,74,75,76,77,78,79,80,81,82,83,84,85,86,87,88,89],[64,65,66,67,68,69,70,71,72,73,74,75,76,77,78,79,80,81,82,83,84,85,86,87,88,89,90],[64,65,66,67,68,69,70,71,72,73,74,75,76,77,78,79,80,81,82,83,84,85,86],[64,65,66,67,68,69,70,71,72,73,74,75,76,77,78,79,80,81,82,83,84,85,86,87,88,89,90,91,92],[64,65,66,67,68,69,70,71,72,73,74,75,76,77,78,79,80,81,82,83,84,85,86,87,88,89,90,91,92,93],[64,65,66,67,68,69,70,71,72,73,74,75,76,77,78,79,80,81,82,83,84,85,86],[64,65,66,67,68,69,70,71,72,73,74,75,76,77,78,79,80,81,82,83,84,85,86,95],[64,65,66,67,68,69,70,71,72,73,74,75,76,77,78,79,80,81,82,83,84,85,86],[64,65,66,67,68,69,70,71,72,73,74,75,76,77,78,79,80,81,82,83,84,85,86,95,96,97],[64,65,66,67,68,69,70,71,72,73,74,75,76,77,78,79,80,81,82,83,84,85,86,95,96,97,98],[64,65,66,67,68,69,70,71,72,73,74,75,76,77,78,79,80,81,82,83,84,85,86,95,96,97,98,99],[64,65,66,67,68,69,70,71,72,73,74,75,76,77,78,79,80,81,82,83,84,85,86],[64,65,66,67,68,69,70,71,72,73,74,75,76,77,78,79,80,81,82,83,84,85,86,95,96,97,98,99,100,101],[64,65,66,67,68,69,70,71,72,73,74,75,76,77,78,79,80,81,82,83,84,85,86,95,96,97,98,99,100,101,102],[64,65,66,67,68,69,70,71,72,73,74,75,76,77,78,79,80,81,82,83,84,85,86,95,96,97,98,99,100,101,102,103],[64,65,66,67,68,69,70,71,72,73,74,75,76,77,78,79,80,81,82,83,84,85,86,95,96,97,98,99,100,101,102,103,104],[64,65,66,67,68,69,70,71,72,73,74,75,76,77,78,79,80,81,82,83,84,85,86,87,88,89,90,91,92,93,94,95,96,97,98,99,100,101,102,103,104,105],[64,65,66,67,68,69,70,71,72,73,74,75,76,77,78,79,80,81,82,83,84,85,86,87,88,89,90,91,92,93,94,95,96,97,98,99,100,101,102,103,104,105,106],[64,65,66,67,68,69,70,71,72,73,74,75,76,77,78,79,80,81,82,83,84,85,86,87,88,89,90,91,92,93,94,95,96,97,98,99,100,101,102,103,104,105,106,107]] [[66,69],[66,69],[64,65,69],[69],[69],[64,65,66,67,68],[],[],[],[],[],[77,80],[77,80],[75,76,80],[80],[80],[75,76,77,78,79],[],[],[],[],[],[],[89,92,95,96,97,98,99,100,101,102,103,104,105],[89,92,95,96,97,98,99,100,101,102,103,104,105],[87,88,92,95,96,97,98,99,100,101,102,103,104,105],[92,95,96,97,98,99,100,101,102,103,104,105],[92,95,96,97,98,99,100,101,102,103,104,105],[87,88,89,90,91,95,96,97,98,99,100,101,102,103,104,105],[95,96,97,98,99,100,101,102,103,104,105],[95,96,97,98,99,100,101,102,103,104,105],[87,88,89,90,91,92,93,94,97,101],[87,88,89,90,91,92,93,94,97,101],[87,88,89,90,91,92,93,94,95,96,101],[87,88,89,90,91,92,93,94,101],[87,88,89,90,91,92,93,94,101],[87,88,89,90,91,92,93,94,101],[87,88,89,90,91,92,93,94,95,96,97,98,99,100],[87,88,89,90,91,92,93,94],[87,88,89,90,91,92,93,94],[87,88,89,90,91,92,93,94],[87,88,89,90,91,92,93,94],[],[],[]] rfl ?_
          refine DR.step (q_fldp rfl rfl rfl rfl (by decide)) rfl rfl ?_;refine DR.step (q_ld1 rfl rfl rfl rfl rfl) rfl rfl ?_;refine DR.step (q_moveC rfl rfl rfl) rfl rfl ?_
          refine DR.step (q_at rfl rfl rfl rfl (by omega) (by assumption) rfl) rfl rfl ?_;refine DR.step (q_lr1 rfl rfl rfl rfl) rfl rfl ?_;refine DR.step (q_moveC rfl rfl rfl) rfl rfl ?_
          refine DR.step (q_at rfl rfl rfl rfl (by omega) (by assumption) rfl) rfl rfl ?_;refine DR.step (q_lrN rfl rfl rfl rfl rfl) rfl rfl ?_
          refine DR.step (q_call0 rfl rfl (c1) rfl) rfl rfl ?_;refine DR.step (q_not rfl rfl rfl) rfl rfl ?_;refine DR.step (q_moveC rfl rfl rfl) rfl rfl ?_
          refine DR.step (Qt.yes rfl rfl rfl (q_fldp rfl rfl rfl rfl (by decide))) rfl rfl ?_;refine DR.step (Qt.yes rfl rfl rfl (q_ld1 rfl rfl rfl rfl rfl)) rfl rfl ?_
          refine DR.step (Qt.yes rfl rfl rfl (q_moveC rfl rfl rfl)) rfl rfl ?_;refine DR.step (Qt.yes rfl rfl rfl (q_at rfl rfl rfl rfl (by omega) (by assumption) rfl)) rfl rfl ?_
          refine DR.step (Qt.yes rfl rfl rfl (q_lr1 rfl rfl rfl rfl)) rfl rfl ?_;refine DR.step (Qt.yes rfl rfl rfl (q_moveC rfl rfl rfl)) rfl rfl ?_
          refine DR.step (Qt.yes rfl rfl rfl (q_at rfl rfl rfl rfl (by omega) (by assumption) rfl)) rfl rfl ?_;refine DR.step (Qt.yes rfl rfl rfl (q_lrN rfl rfl rfl rfl rfl)) rfl rfl ?_
          refine DR.step (Qt.yes rfl rfl rfl (q_call0 rfl rfl (c2) rfl)) rfl rfl ?_;refine DR.step (Qt.yes rfl rfl rfl (q_not rfl rfl rfl)) rfl rfl ?_
          refine DR.step (q_pickF rfl rfl rfl rfl) rfl rfl ?_;refine DR.step (q_moveC rfl rfl rfl) rfl rfl ?_;refine DR.step (Qt.no rfl rfl rfl rfl) rfl rfl ?_
          refine DR.step (Qt.no rfl rfl rfl rfl) rfl rfl ?_;refine DR.step (Qt.no rfl rfl rfl rfl) rfl rfl ?_;refine DR.step (Qt.no rfl rfl rfl rfl) rfl rfl ?_
          refine DR.step (Qt.no rfl rfl rfl rfl) rfl rfl ?_;refine DR.step (Qt.no rfl rfl rfl rfl) rfl rfl ?_;refine DR.step (Qt.no rfl rfl rfl rfl) rfl rfl ?_
          refine DR.step (Qt.no rfl rfl rfl rfl) rfl rfl ?_;refine DR.step (Qt.no rfl rfl rfl rfl) rfl rfl ?_;refine DR.step (Qt.no rfl rfl rfl rfl) rfl rfl ?_
          refine DR.step (Qt.no rfl rfl rfl rfl) rfl rfl ?_;refine DR.step (Qt.no rfl rfl rfl rfl) rfl rfl ?_;refine DR.step (Qt.no rfl rfl rfl rfl) rfl rfl ?_
          refine DR.step (Qt.no rfl rfl rfl rfl) rfl rfl ?_;refine DR.step (Qt.no rfl rfl rfl rfl) rfl rfl ?_;refine DR.step (Qt.no rfl rfl rfl rfl) rfl rfl ?_
          refine DR.step (Qt.no rfl rfl rfl rfl) rfl rfl ?_;refine DR.step (Qt.no rfl rfl rfl rfl) rfl rfl ?_;refine DR.step (Qt.no rfl rfl rfl rfl) rfl rfl ?_
          refine DR.step (Qt.no rfl rfl rfl rfl) rfl rfl ?_;refine DR.step (Qt.no rfl rfl rfl rfl) rfl rfl ?_;refine DR.step (q_pickT rfl rfl rfl rfl) rfl rfl ?_
          refine DR.stop (by kernel_rfl) (by kernel_rfl) ?_
          refine L_nil (T_n ?_);refine A_ifT rfl ?_;refine A_seq (A_region ?_);refine M0 (q_assignC rfl rfl rfl) rfl rfl ?_;refine L_nil (T_n (A_ret (B_r ?_)))
          refine T_r (T_r (B_r (B_r (T_r (T_r (B_r (T_r (F_r ?_))))))))
          exact E_tmp rfl rfl (W_end [] (by decide) rfl rfl rfl)
        | true =>
          rw [hr2] at c2
          cases hr : inR a 0 (els tr.Inputs).length with
          | false =>
            rw [hr] at c3
            rw [show linksM x = false from dF fun hl => by obtain ⟨_,_,b⟩ := link_spec hws hqs hks hp hw hq ha ht ((hl.2 i h3).2 j h7); rw [hr] at b; cases b]
            refine A_skip (T_n (A_seq (A_block (A_seq ?_))))
            refine A_draw [[],[0],[],[0,1,2],[0,1,2,3],[],[0,1,2,3,4,5],[0,1,2,3,4,5,6],[0,1,2,3,4,5,6,7],[0,1,2,3,4,5,6,7,8],[0,1,2,3,4,5,6,7,8,9],[0,1,2,3,4,5,6,7,8,9,10],[0,1,2,3,4,5,6,7,8,9,10,11],[0,1,2,3,4,5,6,7,8,9,10],[0,1,2,3,4,5,6,7,8,9,10,11,12,13],[0,1,2,3,4,5,6,7,8,9,10,11,12,13,14],[0,1,2,3,4,5,6,7,8,9,10],[0,1,2,3,4,5,6,7,8,9,10,11,12,13,14,15,16],[0,1,2,3,4,5,6,7,8,9,10,11,12,13,14,15,16,17],[0,1,2,3,4,5,6,7,8,9,10,11,12,13,14,15,16,17,18],[0,1,2,3,4,5,6,7,8,9,10,11,12,13,14,15,16,17,18,19],[0,1,2,3,4,5,6,7,8,9,10,11,12,13,14,15,16,17,18,19,20],[0,1,2,3,4,5,6,7,8,9,10,11,12,13,14,15,16,17,18,19,20,21],[0,1,2,3,4,5,6,7,8,9,10,11,12,13,14,15,16,17,18,19,20,21,22],[0,1,2,3,4,5,6,7,8,9,10,11,12,13,14,15,16,17,18,19,20,21,22,23],[0,1,2,3,4,5,6,7,8,9,10,11,12,13,14,15,16,17,18,19,20,21,22],[0,1,2,3,4,5,6,7,8,9,10,11,12,13,14,15,16,17,18,19,20,21,22,23,24,25],[0,1,2,3,4,5,6,7,8,9,10,11,12,13,14,15,16,17,18,19,20,21,22,23,24,25,26],[0,1,2,3,4,5,6,7,8,9,10,11,12,13,14,15,16,17,18,19,20,21,22],[0,1,2,3,4,5,6,7,8,9,10,11,12,13,14,15,16,17,18,19,20,21,22,23,24,25,26,27,28],[0,1,2,3,4,5,6,7,8,9,10,11,12,13,14,15,16,17,18,19,20,21,22,23,24,25,26,27,28,29],[0,1,2,3,4,5,6,7,8,9,10,11,12,13,14,15,16,17,18,19,20,21,22],[0,1,2,3,4,5,6,7,8,9,10,11,12,13,14,15,16,17,18,19,20,21,22,31],[0,1,2,3,4,5,6,7,8,9,10,11,12,13,14,15,16,17,18,19,20,21,22],[0,1,2,3,4,5,6,7,8,9,10,11,12,13,14,15,16,17,18,19,20,21,22,31,32,33],[0,1,2,3,4,5,6,7,8,9,10,11,12,13,14,15,16,17,18,19,20,21,22,31,32,33,34],[0,1,2,3,4,5,6,7,8,9,10,11,12,13,14,15,16,17,18,19,20,21,22,31,32,33,34,35],[0,1,2,3,4,5,6,7,8,9,10,11,12,13,14,15,16,17,18,19,20,21,22],[0,1,2,3,4,5,6,7,8,9,10,11,12,13,14,15,16,17,18,19,20,21,22,31,32,33,34,35,36,37],[0,1,2,3,4,5,6,7,8,9,10,11,12,13,14,15,16,17,18,19,20,21,22,31,32,33,34,35,36,37,38],[0,1,2,3,4,5,6,7,8,9,10,11,12,13,14,15,16,17,18,19,20,21,22,31,32,33,34,35,36,37,38,39],[0,1,2,3,4,5,6,7,8,9,10,11,12,13,14,15,16,17,18,19,20,21,22,31,32,33,34,35,36,37,38,39,40],[0,1,2,3,4,5,6,7,8,9,10,11,12,13,14,15,16,17,18,19,20,21,22,23,24,25,26,27,28,29,30,31,32,33,34,35,36,37,38,39,40,41],[0,1,2,3,4,5,6,7,8,9,10,11,12,13,14,15,16,17,18,19,20,21,22,23,24,25,26,27,28,29,30,31,32,33,34,35,36,37,38,39,40,41,42],[0,1,2,3,4,5,6,7,8,9,10,11,12,13,14,15,16,17,18,19,20,21,22,23,24,25,26,27,28,29,30,31,32,33,34,35,36,37,38,39,40,41,42,43]] [[],[64],[],[64,65,66],[64,65,66,67],[],[64,65,66,67,68,69],[64,65,66,67,68,69,70],[64,65,66,67,68,69,70,71],[64,65,66,67,68,69,70,71,72],[64,65,66,67,68,69,70,71,72,73],[64,65,66,67,68,69,70,71,72,73,74],[64,65,66,67,68,69,70,71,72,73,74,75],[64,65,66,67,68,69,70,71,72,73,74],[64,65,66,67,68,69,70,71,72,73,74,75,76,77],[64,65,66,67,68,69,70,71,72,73,74,75,76,77,78],[64,65,66,67,68,69,70,71,72,73,74],[64,65,66,67,68,69,70,71,72,73,74,75,76,77,78,79,80],[64,65,66,67,68,69,70,71,72,73,74,75,76,77,78,79,80,81],[64,65,66,67,68,69,70,71,72,73,74,75,76,77,78,79,80,81,82],[64,65,66,67,68,69,70,71,72,73,74,75,76,77,78,79,80,81,82,83],[64,65,66,67,68,69,70,71,72,73,74,75,76,77,78,79,80,81,82,83,84],[64,65,66,67,68,69,70,71,72,73,74,75,76,77,78,79,80,81,82,83,84,85],[64,65,66,67,68,69,70,71,72,73,74,75,76,77,78,79,80,81,82,83,84,85,86],[64,65,66,67,68,69,70,71,72,73,74,75,76,77,78,79,80,81,82,83,84,85,86,87],[64,65,66,67,68,69,70,71,72,73,74,75,76,77,78,79,80,81,82,83,84,85,86],[64,65,66,67,68,69,70,71,72,73,74,75,76,77,78,79,80,81,82,83,84,85,86,87,88,89],[64,65,66,67,68,69,70,71,72,73,74,75,76,77,78,79,80,81,82,83,84,85,86,87,88,89,90],[64,65,66,67,68,69,70,71,72,73,74,75,76,77,78,79,80,81,82,83,84,85,86],[64,65,66,67,68,69,70,71,72,73,74,75,76,77,78,79,80,81,82,83,84,85,86,87,88,89,90,91,92],[64,65,66,67,68,69,70,71,72,73,74,75,76,77,78,79,80,81,82,83,84,85,86,87,88,89,90,91,92,93],[64,65,66,67,68,69,70,71,72,73,74,75,76,77,78,79,80,81,82,83,84,85,86],[64,65,66,67,68,69,70,71,72,73,74,75,76,77,78,79,80,81,82,83,84,85,86,95],[64,65,66,67,68,69,70,71,72,73,74,75,76,77,78,79,80,81,82,83,84,85,86],[64,65,66,67,68,69,70,71,72,73,74,75,76,77,78,79,80,81,82,83,84,85,86,95,96,97],[64,65,66,67,68,69,70,71,72,73,74,75,76,77,78,79,80,81,82,83,84,85,86,95,96,97,98],[64,65,66,67,68,69,70,71,72,73,74,75,76,77,78,79,80,81,82,83,84,85,86,95,96,97,98,99],[64,65,66,67,68,69,70,71,72,73,74,75,76,77,78,79,80,81,82,83,84,85,86],[64,65,66,67,68,69,70,71,72,73,74,75,76,77,78,79,80,81,82,83,84,85,86,95,96,97,98,99,100,101],[64,65,66,67,68,69,70,71,72,73,74,75,76,77,78,79,80,81,82,83,84,85,86,95,96,97,98,99,100,101,102],[64,65,66,67,68,69,70,71,72,73,74,75,76,77,78,79,80,81,82,83,84,85,86,95,96,97,98,99,100,101,102,103],[64,65,66,67,68,69,70,71,72,73,74,75,76,77,78,79,80,81,82,83,84,85,86,95,96,97,98,99,100,101,102,103,104],[64,65,66,67,68,69,70,71,72,73,74,75,76,77,78,79,80,81,82,83,84,85,86,87,88,89,90,91,92,93,94,95,96,97,98,99,100,101,102,103,104,105],[64,65,66,67,68,69,70,71,72,73,74,75,76,77,78,79,80,81,82,83,84,85,86,87,88,89,90,91,92,93,94,95,96,97,98,99,100,101,102,103,104,105,106],[64,65,66,67,68,69,70,71,72,73,74,75,76,77,78,79,80,81,82,83,84,85,86,87,88,89,90,91,92,93,94,95,96,97,98,99,100,101,102,103,104,105,106,107]] [[66,69],[66,69],[64,65,69],[69],[69],[64,65,66,67,68],[],[],[],[],[],[77,80],[77,80],[75,76,80],[80],[80],[75,76,77,78,79],[],[],[],[],[],[],[89,92,95,96,97,98,99,100,101,102,103,104,105],[89,92,95,96,97,98,99,100,101,102,103,104,105],[87,88,92,95,96,97,98,99,100,101,102,103,104,105],[92,95,96,97,98,99,100,101,102,103,104,105],[92,95,96,97,98,99,100,101,102,103,104,105],[87,88,89,90,91,95,96,97,98,99,100,101,102,103,104,105],[95,96,97,98,99,100,101,102,103,104,105],[95,96,97,98,99,100,101,102,103,104,105],[87,88,89,90,91,92,93,94,97,101],[87,88,89,90,91,92,93,94,97,101],[87,88,89,90,91,92,93,94,95,96,101],[87,88,89,90,91,92,93,94,101],[87,88,89,90,91,92,93,94,101],[87,88,89,90,91,92,93,94,101],[87,88,89,90,91,92,93,94,95,96,97,98,99,100],[87,88,89,90,91,92,93,94],[87,88,89,90,91,92,93,94],[87,88,89,90,91,92,93,94],[87,88,89,90,91,92,93,94],[],[],[]] rfl ?_
            refine DR.step (q_fldp rfl rfl rfl rfl (by decide)) rfl rfl ?_;refine DR.step (q_ld1 rfl rfl rfl rfl rfl) rfl rfl ?_;refine DR.step (q_moveC rfl rfl rfl) rfl rfl ?_
            refine DR.step (q_at rfl rfl rfl rfl (by omega) (by assumption) rfl) rfl rfl ?_;refine DR.step (q_lr1 rfl rfl rfl rfl) rfl rfl ?_;refine DR.step (q_moveC rfl rfl rfl) rfl rfl ?_
            refine DR.step (q_at rfl rfl rfl rfl (by omega) (by assumption) rfl) rfl rfl ?_;refine DR.step (q_lrN rfl rfl rfl rfl rfl) rfl rfl ?_
            refine DR.step (q_call0 rfl rfl (c1) rfl) rfl rfl ?_;refine DR.step (q_not rfl rfl rfl) rfl rfl ?_;refine DR.step (q_moveC rfl rfl rfl) rfl rfl ?_
            refine DR.step (Qt.yes rfl rfl rfl (q_fldp rfl rfl rfl rfl (by decide))) rfl rfl ?_;refine DR.step (Qt.yes rfl rfl rfl (q_ld1 rfl rfl rfl rfl rfl)) rfl rfl ?_
            refine DR.step (Qt.yes rfl rfl rfl (q_moveC rfl rfl rfl)) rfl rfl ?_;refine DR.step (Qt.yes rfl rfl rfl (q_at rfl rfl rfl rfl (by omega) (by assumption) rfl)) rfl rfl ?_
            refine DR.step (Qt.yes rfl rfl rfl (q_lr1 rfl rfl rfl rfl)) rfl rfl ?_;refine DR.step (Qt.yes rfl rfl rfl (q_moveC rfl rfl rfl)) rfl rfl ?_
            refine DR.step (Qt.yes rfl rfl rfl (q_at rfl rfl rfl rfl (by omega) (by assumption) rfl)) rfl rfl ?_;refine DR.step (Qt.yes rfl rfl rfl (q_lrN rfl rfl rfl rfl rfl)) rfl rfl ?_
            refine DR.step (Qt.yes rfl rfl rfl (q_call0 rfl rfl (c2) rfl)) rfl rfl ?_;refine DR.step (Qt.yes rfl rfl rfl (q_not rfl rfl rfl)) rfl rfl ?_
            refine DR.step (q_pickF rfl rfl rfl rfl) rfl rfl ?_;refine DR.step (q_moveC rfl rfl rfl) rfl rfl ?_
            refine DR.step (Qt.yes rfl rfl rfl (q_fldp rfl rfl rfl rfl (by decide))) rfl rfl ?_;refine DR.step (Qt.yes rfl rfl rfl (q_ld1 rfl rfl rfl rfl rfl)) rfl rfl ?_
            refine DR.step (Qt.yes rfl rfl rfl (q_moveC rfl rfl rfl)) rfl rfl ?_;refine DR.step (Qt.yes rfl rfl rfl (q_at rfl rfl rfl rfl (by omega) (by assumption) rfl)) rfl rfl ?_
            refine DR.step (Qt.yes rfl rfl rfl (q_lr1 rfl rfl rfl rfl)) rfl rfl ?_;refine DR.step (Qt.yes rfl rfl rfl (q_moveC rfl rfl rfl)) rfl rfl ?_
            refine DR.step (Qt.yes rfl rfl rfl (q_at rfl rfl rfl rfl (by omega) (by assumption) rfl)) rfl rfl ?_;refine DR.step (Qt.yes rfl rfl rfl (q_lr1 rfl rfl rfl rfl)) rfl rfl ?_
            refine DR.step (Qt.yes rfl rfl rfl (q_fldp rfl rfl rfl rfl (by decide))) rfl rfl ?_;refine DR.step (Qt.yes rfl rfl rfl (q_ld1 rfl rfl rfl rfl rfl)) rfl rfl ?_
            refine DR.step (Qt.yes rfl rfl rfl (q_moveC rfl rfl rfl)) rfl rfl ?_;refine DR.step (Qt.yes rfl rfl rfl (q_at rfl rfl rfl rfl (by omega) (by assumption) rfl)) rfl rfl ?_
            refine DR.step (Qt.yes rfl rfl rfl (q_fldr rfl rfl rfl rfl (by decide))) rfl rfl ?_;refine DR.step (Qt.yes rfl rfl rfl (q_lr1 rfl rfl rfl rfl)) rfl rfl ?_
            refine DR.step (Qt.yes rfl rfl rfl (q_moveC rfl rfl rfl)) rfl rfl ?_;refine DR.step (Qt.yes rfl rfl rfl (q_at rfl rfl rfl rfl (by omega) (by assumption) rfl)) rfl rfl ?_
            refine DR.step (Qt.yes rfl rfl rfl (q_fldr rfl rfl rfl rfl (by decide))) rfl rfl ?_;refine DR.step (Qt.yes rfl rfl rfl (q_lr1 rfl rfl rfl rfl)) rfl rfl ?_
            refine DR.step (Qt.yes rfl rfl rfl (q_len rfl rfl rfl)) rfl rfl ?_;refine DR.step (Qt.yes rfl rfl rfl (q_call0 rfl rfl (c3) rfl)) rfl rfl ?_
            refine DR.step (Qt.yes rfl rfl rfl (q_not rfl rfl rfl)) rfl rfl ?_;refine DR.step (q_pickF rfl rfl rfl rfl) rfl rfl ?_;refine DR.stop (by kernel_rfl) (by kernel_rfl) ?_
            refine L_nil (T_n ?_);refine A_ifT rfl ?_;refine A_seq (A_region ?_);refine M0 (q_assignC rfl rfl rfl) rfl rfl ?_;refine L_nil (T_n (A_ret (B_r ?_)))
            refine T_r (T_r (B_r (B_r (T_r (T_r (B_r (T_r (F_r ?_))))))))
            exact E_tmp rfl rfl (W_end [] (by decide) rfl rfl rfl)
          | true =>
            rw [hr] at c3
            refine A_skip (T_n (A_seq (A_block (A_seq ?_))))
            refine A_draw [[],[0],[],[0,1,2],[0,1,2,3],[],[0,1,2,3,4,5],[0,1,2,3,4,5,6],[0,1,2,3,4,5,6,7],[0,1,2,3,4,5,6,7,8],[0,1,2,3,4,5,6,7,8,9],[0,1,2,3,4,5,6,7,8,9,10],[0,1,2,3,4,5,6,7,8,9,10,11],[0,1,2,3,4,5,6,7,8,9,10],[0,1,2,3,4,5,6,7,8,9,10,11,12,13],[0,1,2,3,4,5,6,7,8,9,10,11,12,13,14],[0,1,2,3,4,5,6,7,8,9,10],[0,1,2,3,4,5,6,7,8,9,10,11,12,13,14,15,16],[0,1,2,3,4,5,6,7,8,9,10,11,12,13,14,15,16,17],[0,1,2,3,4,5,6,7,8,9,10,11,12,13,14,15,16,17,18],[0,1,2,3,4,5,6,7,8,9,10,11,12,13,14,15,16,17,18,19],[0,1,2,3,4,5,6,7,8,9,10,11,12,13,14,15,16,17,18,19,20],[0,1,2,3,4,5,6,7,8,9,10,11,12,13,14,15,16,17,18,19,20,21],[0,1,2,3,4,5,6,7,8,9,10,11,12,13,14,15,16,17,18,19,20,21,22],[0,1,2,3,4,5,6,7,8,9,10,11,12,13,14,15,16,17,18,19,20,21,22,23],[0,1,2,3,4,5,6,7,8,9,10,11,12,13,14,15,16,17,18,19,20,21,22],[0,1,2,3,4,5,6,7,8,9,10,11,12,13,14,15,16,17,18,19,20,21,22,23,24,25],[0,1,2,3,4,5,6,7,8,9,10,11,12,13,14,15,16,17,18,19,20,21,22,23,24,25,26],[0,1,2,3,4,5,6,7,8,9,10,11,12,13,14,15,16,17,18,19,20,21,22],[0,1,2,3,4,5,6,7,8,9,10,11,12,13,14,15,16,17,18,19,20,21,22,23,24,25,26,27,28],[0,1,2,3,4,5,6,7,8,9,10,11,12,13,14,15,16,17,18,19,20,21,22,23,24,25,26,27,28,29],[0,1,2,3,4,5,6,7,8,9,10,11,12,13,14,15,16,17,18,19,20,21,22],[0,1,2,3,4,5,6,7,8,9,10,11,12,13,14,15,16,17,18,19,20,21,22,31],[0,1,2,3,4,5,6,7,8,9,10,11,12,13,14,15,16,17,18,19,20,21,22],[0,1,2,3,4,5,6,7,8,9,10,11,12,13,14,15,16,17,18,19,20,21,22,31,32,33],[0,1,2,3,4,5,6,7,8,9,10,11,12,13,14,15,16,17,18,19,20,21,22,31,32,33,34],[0,1,2,3,4,5,6,7,8,9,10,11,12,13,14,15,16,17,18,19,20,21,22,31,32,33,34,35],[0,1,2,3,4,5,6,7,8,9,10,11,12,13,14,15,16,17,18,19,20,21,22],[0,1,2,3,4,5,6,7,8,9,10,11,12,13,14,15,16,17,18,19,20,21,22,31,32,33,34,35,36,37],[0,1,2,3,4,5,6,7,8,9,10,11,12,13,14,15,16,17,18,19,20,21,22,31,32,33,34,35,36,37,38],[0,1,2,3,4,5,6,7,8,9,10,11,12,13,14,15,16,17,18,19,20,21,22,31,32,33,34,35,36,37,38,39],[0,1,2,3,4,5,6,7,8,9,10,11,12,13,14,15,16,17,18,19,20,21,22,31,32,33,34,35,36,37,38,39,40],[0,1,2,3,4,5,6,7,8,9,10,11,12,13,14,15,16,17,18,19,20,21,22,23,24,25,26,27,28,29,30,31,32,33,34,35,36,37,38,39,40,41],[0,1,2,3,4,5,6,7,8,9,10,11,12,13,14,15,16,17,18,19,20,21,22,23,24,25,26,27,28,29,30,31,32,33,34,35,36,37,38,39,40,41,42],[0,1,2,3,4,5,6,7,8,9,10,11,12,13,14,15,16,17,18,19,20,21,22,23,24,25,26,27,28,29,30,31,32,33,34,35,36,37,38,39,40,41,42,43]] [[],[64],[],[64,65,66],[64,65,66,67],[],[64,65,66,67,68,69],[64,65,66,67,68,69,70],[64,65,66,67,68,69,70,71],[64,65,66,67,68,69,70,71,72],[64,65,66,67,68,69,70,71,72,73],[64,65,66,67,68,69,70,71,72,73,74],[64,65,66,67,68,69,70,71,72,73,74,75],[64,65,66,67,68,69,70,71,72,73,74],[64,65,66,67,68,69,70,71,72,73,74,75,76,77],[64,65,66,67,68,69,70,71,72,73,74,75,76,77,78],[64,65,66,67,68,69,70,71,72,73,74],[64,65,66,67,68,69,70,71,72,73,74,75,76,77,78,79,80],[64,65,66,67,68,69,70,71,72,73,74,75,76,77,78,79,80,81],[64,65,66,67,68,69,70,71,72,73,74,75,76,77,78,79,80,81,82],[64,65,66,67,68,69,70,71,72,73,74,75,76,77,78,79,80,81,82,83],[64,65,66,67,68,69,70,71,72,73,74,75,76,77,78,79,80,81,82,83,84],[64,65,66,67,68,69,70,71,72,73,74,75,76,77,78,79,80,81,82,83,84,85],[64,65,66,67,68,69,70,71,72,73,74,75,76,77,78,79,80,81,82,83,84,85,86],[64,65,66,67,68,69,70,71,72,73,74,75,76,77,78,79,80,81,82,83,84,85,86,87],[64,65,66,67,68,69,70,71,72,73,74,75,76,77,78,79,80,81,82,83,84,85,86],[64,65,66,67,68,69,70,71,72,73,74,75,76,77,78,79,80,81,82,83,84,85,86,87,88,89],[64,65,66,67,68,69,70,71,72,73,74,75,76,77,78,79,80,81,82,83,84,85,86,87,88,89,90],[64,65,66,67,68,69,70,71,72,73,74,75,76,77,78,79,80,81,82,83,84,85,86],[64,65,66,67,68,69,70,71,72,73,74,75,76,77,78,79,80,81,82,83,84,85,86,87,88,89,90,91,92],[64,65,66,67,68,69,70,71,72,73,74,75,76,77,78,79,80,81,82,83,84,85,86,87,88,89,90,91,92,93],[64,65,66,67,68,69,70,71,72,73,74,75,76,77,78,79,80,81,82,83,84,85,86],[64,65,66,67,68,69,70,71,72,73,74,75,76,77,78,79,80,81,82,83,84,85,86,95],[64,65,66,67,68,69,70,71,72,73,74,75,76,77,78,79,80,81,82,83,84,85,86],[64,65,66,67,68,69,70,71,72,73,74,75,76,77,78,79,80,81,82,83,84,85,86,95,96,97],[64,65,66,67,68,69,70,71,72,73,74,75,76,77,78,79,80,81,82,83,84,85,86,95,96,97,98],[64,65,66,67,68,69,70,71,72,73,74,75,76,77,78,79,80,81,82,83,84,85,86,95,96,97,98,99],[64,65,66,67,68,69,70,71,72,73,74,75,76,77,78,79,80,81,82,83,84,85,86],[64,65,66,67,68,69,70,71,72,73,74,75,76,77,78,79,80,81,82,83,84,85,86,95,96,97,98,99,100,101],[64,65,66,67,68,69,70,71,72,73,74,75,76,77,78,79,80,81,82,83,84,85,86,95,96,97,98,99,100,101,102],[64,65,66,67,68,69,70,71,72,73,74,75,76,77,78,79,80,81,82,83,84,85,86,95,96,97,98,99,100,101,102,103],[64,65,66,67,68,69,70,71,72,73,74,75,76,77,78,79,80,81,82,83,84,85,86,95,96,97,98,99,100,101,102,103,104],[64,65,66,67,68,69,70,71,72,73,74,75,76,77,78,79,80,81,82,83,84,85,86,87,88,89,90,91,92,93,94,95,96,97,98,99,100,101,102,103,104,105],[64,65,66,67,68,69,70,71,72,73,74,75,76,77,78,79,80,81,82,83,84,85,86,87,88,89,90,91,92,93,94,95,96,97,98,99,100,101,102,103,104,105,106],[64,65,66,67,68,69,70,71,72,73,74,75,76,77,78,79,80,81,82,83,84,85,86,87,88,89,90,91,92,93,94,95,96,97,98,99,100,101,102,103,104,105,106,107]] [[66,69],[66,69],[64,65,69],[69],[69],[64,65,66,67,68],[],[],[],[],[],[77,80],[77,80],[75,76,80],[80],[80],[75,76,77,78,79],[],[],[],[],[],[],[89,92,95,96,97,98,99,100,101,102,103,104,105],[89,92,95,96,97,98,99,100,101,102,103,104,105],[87,88,92,95,96,97,98,99,100,101,102,103,104,105],[92,95,96,97,98,99,100,101,102,103,104,105],[92,95,96,97,98,99,100,101,102,103,104,105],[87,88,89,90,91,95,96,97,98,99,100,101,102,103,104,105],[95,96,97,98,99,100,101,102,103,104,105],[95,96,97,98,99,100,101,102,103,104,105],[87,88,89,90,91,92,93,94,97,101],[87,88,89,90,91,92,93,94,97,101],[87,88,89,90,91,92,93,94,95,96,101],[87,88,89,90,91,92,93,94,101],[87,88,89,90,91,92,93,94,101],[87,88,89,90,91,92,93,94,101],[87,88,89,90,91,92,93,94,95,96,97,98,99,100],[87,88,89,90,91,92,93,94],[87,88,89,90,91,92,93,94],[87,88,89,90,91,92,93,94],[87,88,89,90,91,92,93,94],[],[],[]] rfl ?_
            refine DR.step (q_fldp rfl rfl rfl rfl (by decide)) rfl rfl ?_;refine DR.step (q_ld1 rfl rfl rfl rfl rfl) rfl rfl ?_;refine DR.step (q_moveC rfl rfl rfl) rfl rfl ?_
            refine DR.step (q_at rfl rfl rfl rfl (by omega) (by assumption) rfl) rfl rfl ?_;refine DR.step (q_lr1 rfl rfl rfl rfl) rfl rfl ?_;refine DR.step (q_moveC rfl rfl rfl) rfl rfl ?_
            refine DR.step (q_at rfl rfl rfl rfl (by omega) (by assumption) rfl) rfl rfl ?_;refine DR.step (q_lrN rfl rfl rfl rfl rfl) rfl rfl ?_
            refine DR.step (q_call0 rfl rfl (c1) rfl) rfl rfl ?_;refine DR.step (q_not rfl rfl rfl) rfl rfl ?_;refine DR.step (q_moveC rfl rfl rfl) rfl rfl ?_
            refine DR.step (Qt.yes rfl rfl rfl (q_fldp rfl rfl rfl rfl (by decide))) rfl rfl ?_;refine DR.step (Qt.yes rfl rfl rfl (q_ld1 rfl rfl rfl rfl rfl)) rfl rfl ?_
            refine DR.step (Qt.yes rfl rfl rfl (q_moveC rfl rfl rfl)) rfl rfl ?_;refine DR.step (Qt.yes rfl rfl rfl (q_at rfl rfl rfl rfl (by omega) (by assumption) rfl)) rfl rfl ?_
            refine DR.step (Qt.yes rfl rfl rfl (q_lr1 rfl rfl rfl rfl)) rfl rfl ?_;refine DR.step (Qt.yes rfl rfl rfl (q_moveC rfl rfl rfl)) rfl rfl ?_
            refine DR.step (Qt.yes rfl rfl rfl (q_at rfl rfl rfl rfl (by omega) (by assumption) rfl)) rfl rfl ?_;refine DR.step (Qt.yes rfl rfl rfl (q_lrN rfl rfl rfl rfl rfl)) rfl rfl ?_
            refine DR.step (Qt.yes rfl rfl rfl (q_call0 rfl rfl (c2) rfl)) rfl rfl ?_;refine DR.step (Qt.yes rfl rfl rfl (q_not rfl rfl rfl)) rfl rfl ?_
            refine DR.step (q_pickF rfl rfl rfl rfl) rfl rfl ?_;refine DR.step (q_moveC rfl rfl rfl) rfl rfl ?_
            refine DR.step (Qt.yes rfl rfl rfl (q_fldp rfl rfl rfl rfl (by decide))) rfl rfl ?_;refine DR.step (Qt.yes rfl rfl rfl (q_ld1 rfl rfl rfl rfl rfl)) rfl rfl ?_
            refine DR.step (Qt.yes rfl rfl rfl (q_moveC rfl rfl rfl)) rfl rfl ?_;refine DR.step (Qt.yes rfl rfl rfl (q_at rfl rfl rfl rfl (by omega) (by assumption) rfl)) rfl rfl ?_
            refine DR.step (Qt.yes rfl rfl rfl (q_lr1 rfl rfl rfl rfl)) rfl rfl ?_;refine DR.step (Qt.yes rfl rfl rfl (q_moveC rfl rfl rfl)) rfl rfl ?_
            refine DR.step (Qt.yes rfl rfl rfl (q_at rfl rfl rfl rfl (by omega) (by assumption) rfl)) rfl rfl ?_;refine DR.step (Qt.yes rfl rfl rfl (q_lr1 rfl rfl rfl rfl)) rfl rfl ?_
            refine DR.step (Qt.yes rfl rfl rfl (q_fldp rfl rfl rfl rfl (by decide))) rfl rfl ?_;refine DR.step (Qt.yes rfl rfl rfl (q_ld1 rfl rfl rfl rfl rfl)) rfl rfl ?_
            refine DR.step (Qt.yes rfl rfl rfl (q_moveC rfl rfl rfl)) rfl rfl ?_;refine DR.step (Qt.yes rfl rfl rfl (q_at rfl rfl rfl rfl (by omega) (by assumption) rfl)) rfl rfl ?_
            refine DR.step (Qt.yes rfl rfl rfl (q_fldr rfl rfl rfl rfl (by decide))) rfl rfl ?_;refine DR.step (Qt.yes rfl rfl rfl (q_lr1 rfl rfl rfl rfl)) rfl rfl ?_
            refine DR.step (Qt.yes rfl rfl rfl (q_moveC rfl rfl rfl)) rfl rfl ?_;refine DR.step (Qt.yes rfl rfl rfl (q_at rfl rfl rfl rfl (by omega) (by assumption) rfl)) rfl rfl ?_
            refine DR.step (Qt.yes rfl rfl rfl (q_fldr rfl rfl rfl rfl (by decide))) rfl rfl ?_;refine DR.step (Qt.yes rfl rfl rfl (q_lr1 rfl rfl rfl rfl)) rfl rfl ?_
            refine DR.step (Qt.yes rfl rfl rfl (q_len rfl rfl rfl)) rfl rfl ?_;refine DR.step (Qt.yes rfl rfl rfl (q_call0 rfl rfl (c3) rfl)) rfl rfl ?_
            refine DR.step (Qt.yes rfl rfl rfl (q_not rfl rfl rfl)) rfl rfl ?_;refine DR.step (q_pickF rfl rfl rfl rfl) rfl rfl ?_;refine DR.stop (by kernel_rfl) (by kernel_rfl) ?_
            refine L_nil (T_n ?_);refine A_ifF rfl ?_;refine A_skip (B_n (T_n (A_region ?_)));refine M0 (q_moveC rfl rfl rfl) rfl rfl ?_
            refine M0 (q_add rfl rfl rfl rfl (by omega)) rfl rfl ?_;refine M0 (q_assignC rfl rfl rfl) rfl rfl ?_;refine L_nil (T_n ?_)
            exact ⟨x.Peers.length - (j + 1),by omega,(fun j : Nat => (⟨_,[(2,.o (.c (.ptr 0 0))),(1,I x.Peers.length),(5,I i),(6,I j)],[.box ((Enc.e x).map (V1.rd []))]⟩ : St)) (j + 1),W_go [0] (by decide) rfl (rfl) (.cons rfl (.cons rfl (.cons rfl (.cons rfl (.nil))))),j + 1,by omega,upto_next hp_D (link_yes hws hqs hks hp hw hq ha ht (by rw [hr1,hr2]; rfl) hr),rfl⟩
    have h7 : ¬ j < x.Peers.length := by have := of_decide_eq_false h; omega
    refine A_exit (T_x (T_x (B_xs (B_n (T_n (A_region ?_))))));refine M0 (q_moveC rfl rfl rfl) rfl rfl ?_
    refine M0 (q_add rfl rfl rfl rfl (by omega)) rfl rfl ?_;refine M0 (q_assignC rfl rfl rfl) rfl rfl ?_;refine L_nil (T_n ?_)
    exact ⟨x.Peers.length - (i + 1),by omega,(fun i : Nat => (⟨_,[(2,.o (.c (.ptr 0 0))),(1,I x.Peers.length),(5,I i)],[.box ((Enc.e x).map (V1.rd []))]⟩ : St)) (i + 1),W_go [0] (by decide) rfl (rfl) (.cons rfl (.cons rfl (.cons rfl (.nil)))),i + 1,by omega,upto_next hp_A ⟨link_len hws hqs hks (by omega) (by omega) (by omega),fun j' hj => hp_D j' (by omega)⟩,rfl⟩
  have h3 : ¬ i < x.Peers.length := by have := of_decide_eq_false h; omega
  rw [show linksM x = true from dT ⟨⟨by omega,by omega,by omega⟩,fun i' hi => hp_A i' (by omega)⟩]
  refine A_exit (T_x (T_x (B_xs (T_n (A_seq (A_region ?_))))));refine M0 (q_assignC rfl rfl rfl) rfl rfl ?_;refine L_nil (T_n ?_)
  refine A_ret (F_r ?_)
  exact E_tmp rfl rfl (W_end [] (by decide) rfl rfl rfl)
end Go.Proofs.YtbpebmolbdplmaaGreat
end

section
set_option linter.unusedSimpArgs false
set_option linter.unusedVariables false
set_option maxRecDepth 8000
namespace Go.Proofs.YtbpebmolbdplmaaGreat
open Go.RowKit

section
variable {p : TPeer}
theorem noS1 (h : ((((((!worldOk p.Base || !worldOk p.Now) || !decide (p.Base.Level = p.Now.Level)) || decide ((p.Base.Scores.length : Int) ≠ p.Tracks.length)) || decide ((p.Now.Scores.length : Int) ≠ p.Tracks.length)) || !tracksOk p.Tracks) || !faultOk p.Fault p.Tracks.length) = true) : ¬ PeerP p := fun ⟨⟨q1,q2,q3,q4⟩,⟨q5,q6,q7⟩,_⟩ => by
  rw [q1,q2,q3,decide_eq_true q4,q7,decide_eq_false (by omega),decide_eq_false (by omega)] at h; exact absurd h (by decide)
theorem noS2 (h : ((((((((!inR p.Me 0 ((p.Tracks.length : Int) - 1) || !inR p.Delay 0 5) || !inR p.Ahead 1 8) || !inR p.Seed 0 65535) || !inR p.Rolls 0 1000000) || !inR p.Again 0 1000000) || !inR (p.Now.Tick - p.Base.Tick) 0 p.Ahead) || decide ((p.Used.length : Int) ≠ p.Now.Tick - p.Base.Tick)) || decide ((p.Saves.length : Int) ≠ p.Now.Tick - p.Base.Tick)) = true) : ¬ PeerP p := fun ⟨_,_,⟨q1,q2,q3⟩,⟨q4,q5,q6⟩,⟨q7,q8,q9⟩,_⟩ => by
  rw [inR_iff.2 q1,inR_iff.2 q2,inR_iff.2 q3,inR_iff.2 q4,inR_iff.2 q5,inR_iff.2 q6,inR_iff.2 q7,decide_eq_false (by omega),decide_eq_false (by omega)] at h; exact absurd h (by decide)
end
set_option maxHeartbeats 8000000 in
theorem S_PeerOk (x : TPeer) (hg : Enc.gd x) : Con Tryz.prog 23 [] [ag x] [] (B (peerOk x)) := by
  obtain ⟨gMe,gDe,gAh,gSe,gTr,gBa,gNo,gUs,gSa,gSu,gFa,gRo,gAg⟩ := hg
  have hlt := els_len x.Tracks
  have hlu := els_len x.Used
  have hls := els_len x.Saves
  have hlm := els_len x.Sums
  have hlb := els_len x.Base.Scores
  have hln := els_len x.Now.Scores
  have c1 := S_TracksOk x.Tracks gTr
  have c2 := S_WorldOk x.Base gBa
  have c3 := S_WorldOk x.Now gNo
  have c4 := S_sameLevel x.Base.Level x.Now.Level gBa.1
  have c5 := S_FaultOk x.Fault (els x.Tracks).length (by omega) (by have := gTr.1; omega)
  have c6 := S_KnownTicks x.Tracks gTr
  refine Con.of Tryz.func23 rfl Tryz.ntmps23 rfl (fun E => ?_)
  refine A_seq (A_region ?_);refine M1 (q_boxN rfl rfl rfl rfl) rfl rfl ?_;refine M0 (q_assignC rfl rfl rfl) rfl rfl ?_;refine L_nil (T_n (A_seq ?_))
  refine A_region ?_;refine M0 (q_fldp rfl rfl rfl rfl (by decide)) rfl rfl ?_;refine M0 (q_ld1 rfl rfl rfl rfl rfl) rfl rfl ?_;refine M0 (q_len rfl rfl rfl) rfl rfl ?_
  refine M0 (q_assignC rfl rfl rfl) rfl rfl ?_;refine L_nil (T_n (A_seq (A_seq (A_region ?_))));refine M0 (q_fldp rfl rfl rfl rfl (by decide)) rfl rfl ?_
  refine M0 (q_ldN rfl rfl rfl rfl rfl rfl) rfl rfl ?_;refine M0 (q_call0 rfl rfl (c2) rfl) rfl rfl ?_;refine M0 (q_not rfl rfl rfl) rfl rfl ?_
  refine M0 (q_moveC rfl rfl rfl) rfl rfl ?_;refine M0 (Qt.grdF rfl rfl rfl .stop (fun hgrd => q_fldp rfl rfl rfl rfl (by decide))) rfl rfl ?_
  refine M0 (Qt.grdF rfl rfl rfl (.hit .stop) (fun hgrd => q_ldN rfl rfl rfl rfl rfl rfl)) rfl rfl ?_
  refine M0 (Qt.grdF rfl rfl rfl (.hit (.hit .stop)) (fun hgrd => q_call0 rfl rfl (c3) rfl)) rfl rfl ?_
  refine M0 (Qt.grdF rfl rfl rfl (.hit (.hit (.hit .stop))) (fun hgrd => q_not rfl rfl rfl)) rfl rfl ?_;refine M0 (q_or rfl rfl rfl rfl) rfl rfl ?_
  refine M0 (q_moveC rfl rfl rfl) rfl rfl ?_;refine M0 (Qt.grdF rfl rfl rfl .stop (fun hgrd => q_fldp rfl rfl rfl rfl (by decide))) rfl rfl ?_
  refine M0 (Qt.grdF rfl rfl rfl (.hit .stop) (fun hgrd => q_fldp rfl rfl rfl rfl (by decide))) rfl rfl ?_
  refine M0 (Qt.grdF rfl rfl rfl (.hit (.hit .stop)) (fun hgrd => q_ldN rfl rfl rfl rfl rfl rfl)) rfl rfl ?_
  refine M0 (Qt.grdF rfl rfl rfl (.hit (.hit (.hit .stop))) (fun hgrd => q_fldp rfl rfl rfl rfl (by decide))) rfl rfl ?_
  refine M0 (Qt.grdF rfl rfl rfl (.hit (.hit (.hit (.hit .stop)))) (fun hgrd => q_fldp rfl rfl rfl rfl (by decide))) rfl rfl ?_
  refine M0 (Qt.grdF rfl rfl rfl (.hit (.hit (.hit (.hit (.hit .stop))))) (fun hgrd => q_ldN rfl rfl rfl rfl rfl rfl)) rfl rfl ?_
  refine M0 (Qt.grdF rfl rfl rfl (.hit (.hit (.hit (.hit (.hit (.hit .stop)))))) (fun hgrd => q_call0 rfl rfl (c4) rfl)) rfl rfl ?_
  refine M0 (Qt.grdF rfl rfl rfl (.hit (.hit (.hit (.hit (.hit (.hit (.hit .stop))))))) (fun hgrd => q_not rfl rfl rfl)) rfl rfl ?_;refine M0 (q_or rfl rfl rfl rfl) rfl rfl ?_
  refine M0 (q_moveC rfl rfl rfl) rfl rfl ?_;refine M0 (Qt.grdF rfl rfl rfl .stop (fun hgrd => q_fldp rfl rfl rfl rfl (by decide))) rfl rfl ?_
  refine M0 (Qt.grdF rfl rfl rfl (.hit .stop) (fun hgrd => q_fldp rfl rfl rfl rfl (by decide))) rfl rfl ?_
  refine M0 (Qt.grdF rfl rfl rfl (.hit (.hit .stop)) (fun hgrd => q_ld1 rfl rfl rfl rfl rfl)) rfl rfl ?_
  refine M0 (Qt.grdF rfl rfl rfl (.hit (.hit (.hit .stop))) (fun hgrd => q_len rfl rfl rfl)) rfl rfl ?_
  refine M0 (Qt.grdF rfl rfl rfl (.hit (.hit (.hit (.hit .stop)))) (fun hgrd => q_moveC rfl rfl rfl)) rfl rfl ?_
  refine M0 (Qt.grdF rfl rfl rfl (.hit (.hit (.hit (.hit (.hit .stop))))) (fun hgrd => q_neq rfl rfl rfl rfl)) rfl rfl ?_;refine M0 (q_or rfl rfl rfl rfl) rfl rfl ?_
  refine M0 (q_moveC rfl rfl rfl) rfl rfl ?_;refine M0 (Qt.grdF rfl rfl rfl .stop (fun hgrd => q_fldp rfl rfl rfl rfl (by decide))) rfl rfl ?_
  refine M0 (Qt.grdF rfl rfl rfl (.hit .stop) (fun hgrd => q_fldp rfl rfl rfl rfl (by decide))) rfl rfl ?_
  refine M0 (Qt.grdF rfl rfl rfl (.hit (.hit .stop)) (fun hgrd => q_ld1 rfl rfl rfl rfl rfl)) rfl rfl ?_
  refine M0 (Qt.grdF rfl rfl rfl (.hit (.hit (.hit .stop))) (fun hgrd => q_len rfl rfl rfl)) rfl rfl ?_
  refine M0 (Qt.grdF rfl rfl rfl (.hit (.hit (.hit (.hit .stop)))) (fun hgrd => q_moveC rfl rfl rfl)) rfl rfl ?_
  refine M0 (Qt.grdF rfl rfl rfl (.hit (.hit (.hit (.hit (.hit .stop))))) (fun hgrd => q_neq rfl rfl rfl rfl)) rfl rfl ?_;refine M0 (q_or rfl rfl rfl rfl) rfl rfl ?_
  refine M0 (q_moveC rfl rfl rfl) rfl rfl ?_;refine M0 (Qt.grdF rfl rfl rfl .stop (fun hgrd => q_fldp rfl rfl rfl rfl (by decide))) rfl rfl ?_
  refine M0 (Qt.grdF rfl rfl rfl (.hit .stop) (fun hgrd => q_ld1 rfl rfl rfl rfl rfl)) rfl rfl ?_
  refine M0 (Qt.grdF rfl rfl rfl (.hit (.hit .stop)) (fun hgrd => q_call0 rfl rfl (c1) rfl)) rfl rfl ?_
  refine M0 (Qt.grdF rfl rfl rfl (.hit (.hit (.hit .stop))) (fun hgrd => q_not rfl rfl rfl)) rfl rfl ?_;refine M0 (q_or rfl rfl rfl rfl) rfl rfl ?_
  refine M0 (q_moveC rfl rfl rfl) rfl rfl ?_;refine M0 (Qt.grdF rfl rfl rfl .stop (fun hgrd => q_fldp rfl rfl rfl rfl (by decide))) rfl rfl ?_
  refine M0 (Qt.grdF rfl rfl rfl (.hit .stop) (fun hgrd => q_ldN rfl rfl rfl rfl rfl rfl)) rfl rfl ?_
  refine M0 (Qt.grdF rfl rfl rfl (.hit (.hit .stop)) (fun hgrd => q_moveC rfl rfl rfl)) rfl rfl ?_
  refine M0 (Qt.grdF rfl rfl rfl (.hit (.hit (.hit .stop))) (fun hgrd => q_call0 rfl rfl (c5) rfl)) rfl rfl ?_
  refine M0 (Qt.grdF rfl rfl rfl (.hit (.hit (.hit (.hit .stop)))) (fun hgrd => q_not rfl rfl rfl)) rfl rfl ?_;refine M0 (q_or rfl rfl rfl rfl) rfl rfl ?_;refine L_nil (T_n ?_)
  refine A_cond rfl (fun h1 => ?_) (fun h1 => ?_)
  · rw [hlt,hlb,hln] at h1
    rw [peer_F (noS1 h1)]
    refine A_seq (A_region ?_);refine M0 (q_assignC rfl rfl rfl) rfl rfl ?_;refine L_nil (T_n (A_ret (T_r (F_r ?_))))
    exact E_tmp rfl rfl (W_end [] (by decide) rfl rfl rfl)
  rw [hlt,hlb,hln] at h1
  simp only [Bool.or_eq_false_iff,Bool.not_eq_false',decide_eq_true_eq,decide_eq_false_iff_not,Classical.not_not] at h1
  obtain ⟨⟨⟨⟨⟨⟨q2,q3⟩,q4⟩,q5⟩,q6⟩,q1⟩,q7⟩ := h1
  have tB := world_ticks q2
  have tN := world_ticks q3
  have tL := tracks_spec q1
  refine AWP.pre (st' := (⟨_,[(1,.o (.c (.ptr 0 0))),(3,I (els x.Tracks).length)],[.box ((Enc.e x).map (V1.rd []))]⟩ : St)) ?_ (W_go [0] (by decide) rfl (rfl) (.cons rfl (.cons rfl (.nil))))
  refine A_skip (T_n (A_seq (A_region ?_)));refine M0 (q_fldp rfl rfl rfl rfl (by decide)) rfl rfl ?_;refine M0 (q_fldp rfl rfl rfl rfl (by decide)) rfl rfl ?_
  refine M0 (q_ld1 rfl rfl rfl rfl rfl) rfl rfl ?_;refine M0 (q_fldp rfl rfl rfl rfl (by decide)) rfl rfl ?_;refine M0 (q_fldp rfl rfl rfl rfl (by decide)) rfl rfl ?_
  refine M0 (q_ld1 rfl rfl rfl rfl rfl) rfl rfl ?_;refine M0 (q_sub rfl rfl rfl rfl (by omega)) rfl rfl ?_;refine M0 (q_assignC rfl rfl rfl) rfl rfl ?_;refine L_nil (T_n ?_)
  refine A_seq (A_seq (A_region ?_));refine M0 (q_fldp rfl rfl rfl rfl (by decide)) rfl rfl ?_;refine M0 (q_ld1 rfl rfl rfl rfl rfl) rfl rfl ?_
  refine M0 (q_moveC rfl rfl rfl) rfl rfl ?_;refine M0 (q_sub rfl rfl rfl rfl (by omega)) rfl rfl ?_
  refine M0 (q_call0 rfl rfl (S_in x.Me 0 (((els x.Tracks).length : Int) - 1)) rfl) rfl rfl ?_;refine M0 (q_not rfl rfl rfl) rfl rfl ?_;refine M0 (q_moveC rfl rfl rfl) rfl rfl ?_
  refine M0 (Qt.grdF rfl rfl rfl .stop (fun hgrd => q_fldp rfl rfl rfl rfl (by decide))) rfl rfl ?_
  refine M0 (Qt.grdF rfl rfl rfl (.hit .stop) (fun hgrd => q_ld1 rfl rfl rfl rfl rfl)) rfl rfl ?_
  refine M0 (Qt.grdF rfl rfl rfl (.hit (.hit .stop)) (fun hgrd => q_call0 rfl rfl (S_in x.Delay 0 5) rfl)) rfl rfl ?_
  refine M0 (Qt.grdF rfl rfl rfl (.hit (.hit (.hit .stop))) (fun hgrd => q_not rfl rfl rfl)) rfl rfl ?_;refine M0 (q_or rfl rfl rfl rfl) rfl rfl ?_
  refine M0 (q_moveC rfl rfl rfl) rfl rfl ?_;refine M0 (Qt.grdF rfl rfl rfl .stop (fun hgrd => q_fldp rfl rfl rfl rfl (by decide))) rfl rfl ?_
  refine M0 (Qt.grdF rfl rfl rfl (.hit .stop) (fun hgrd => q_ld1 rfl rfl rfl rfl rfl)) rfl rfl ?_
  refine M0 (Qt.grdF rfl rfl rfl (.hit (.hit .stop)) (fun hgrd => q_call0 rfl rfl (S_in x.Ahead 1 8) rfl)) rfl rfl ?_
  refine M0 (Qt.grdF rfl rfl rfl (.hit (.hit (.hit .stop))) (fun hgrd => q_not rfl rfl rfl)) rfl rfl ?_;refine M0 (q_or rfl rfl rfl rfl) rfl rfl ?_
  refine M0 (q_moveC rfl rfl rfl) rfl rfl ?_;refine M0 (Qt.grdF rfl rfl rfl .stop (fun hgrd => q_fldp rfl rfl rfl rfl (by decide))) rfl rfl ?_
  refine M0 (Qt.grdF rfl rfl rfl (.hit .stop) (fun hgrd => q_ld1 rfl rfl rfl rfl rfl)) rfl rfl ?_
  refine M0 (Qt.grdF rfl rfl rfl (.hit (.hit .stop)) (fun hgrd => q_call0 rfl rfl (S_in x.Seed 0 65535) rfl)) rfl rfl ?_
  refine M0 (Qt.grdF rfl rfl rfl (.hit (.hit (.hit .stop))) (fun hgrd => q_not rfl rfl rfl)) rfl rfl ?_;refine M0 (q_or rfl rfl rfl rfl) rfl rfl ?_
  refine M0 (q_moveC rfl rfl rfl) rfl rfl ?_;refine M0 (Qt.grdF rfl rfl rfl .stop (fun hgrd => q_fldp rfl rfl rfl rfl (by decide))) rfl rfl ?_
  refine M0 (Qt.grdF rfl rfl rfl (.hit .stop) (fun hgrd => q_ld1 rfl rfl rfl rfl rfl)) rfl rfl ?_
  refine M0 (Qt.grdF rfl rfl rfl (.hit (.hit .stop)) (fun hgrd => q_call0 rfl rfl (S_in x.Rolls 0 1000000) rfl)) rfl rfl ?_
  refine M0 (Qt.grdF rfl rfl rfl (.hit (.hit (.hit .stop))) (fun hgrd => q_not rfl rfl rfl)) rfl rfl ?_;refine M0 (q_or rfl rfl rfl rfl) rfl rfl ?_
  refine M0 (q_moveC rfl rfl rfl) rfl rfl ?_;refine M0 (Qt.grdF rfl rfl rfl .stop (fun hgrd => q_fldp rfl rfl rfl rfl (by decide))) rfl rfl ?_
  refine M0 (Qt.grdF rfl rfl rfl (.hit .stop) (fun hgrd => q_ld1 rfl rfl rfl rfl rfl)) rfl rfl ?_
  refine M0 (Qt.grdF rfl rfl rfl (.hit (.hit .stop)) (fun hgrd => q_call0 rfl rfl (S_in x.Again 0 1000000) rfl)) rfl rfl ?_
  refine M0 (Qt.grdF rfl rfl rfl (.hit (.hit (.hit .stop))) (fun hgrd => q_not rfl rfl rfl)) rfl rfl ?_;refine M0 (q_or rfl rfl rfl rfl) rfl rfl ?_
  refine M0 (q_moveC rfl rfl rfl) rfl rfl ?_;refine M0 (Qt.grdF rfl rfl rfl .stop (fun hgrd => q_moveC rfl rfl rfl)) rfl rfl ?_
  refine M0 (Qt.grdF rfl rfl rfl (.hit .stop) (fun hgrd => q_fldp rfl rfl rfl rfl (by decide))) rfl rfl ?_
  refine M0 (Qt.grdF rfl rfl rfl (.hit (.hit .stop)) (fun hgrd => q_ld1 rfl rfl rfl rfl rfl)) rfl rfl ?_
  refine M0 (Qt.grdF rfl rfl rfl (.hit (.hit (.hit .stop))) (fun hgrd => q_call0 rfl rfl (S_in (x.Now.Tick - x.Base.Tick) 0 x.Ahead) rfl)) rfl rfl ?_
  refine M0 (Qt.grdF rfl rfl rfl (.hit (.hit (.hit (.hit .stop)))) (fun hgrd => q_not rfl rfl rfl)) rfl rfl ?_;refine M0 (q_or rfl rfl rfl rfl) rfl rfl ?_
  refine M0 (q_moveC rfl rfl rfl) rfl rfl ?_;refine M0 (Qt.grdF rfl rfl rfl .stop (fun hgrd => q_fldp rfl rfl rfl rfl (by decide))) rfl rfl ?_
  refine M0 (Qt.grdF rfl rfl rfl (.hit .stop) (fun hgrd => q_ld1 rfl rfl rfl rfl rfl)) rfl rfl ?_
  refine M0 (Qt.grdF rfl rfl rfl (.hit (.hit .stop)) (fun hgrd => q_len rfl rfl rfl)) rfl rfl ?_
  refine M0 (Qt.grdF rfl rfl rfl (.hit (.hit (.hit .stop))) (fun hgrd => q_moveC rfl rfl rfl)) rfl rfl ?_
  refine M0 (Qt.grdF rfl rfl rfl (.hit (.hit (.hit (.hit .stop)))) (fun hgrd => q_neq rfl rfl rfl rfl)) rfl rfl ?_;refine M0 (q_or rfl rfl rfl rfl) rfl rfl ?_
  refine M0 (q_moveC rfl rfl rfl) rfl rfl ?_;refine M0 (Qt.grdF rfl rfl rfl .stop (fun hgrd => q_fldp rfl rfl rfl rfl (by decide))) rfl rfl ?_
  refine M0 (Qt.grdF rfl rfl rfl (.hit .stop) (fun hgrd => q_ld1 rfl rfl rfl rfl rfl)) rfl rfl ?_
  refine M0 (Qt.grdF rfl rfl rfl (.hit (.hit .stop)) (fun hgrd => q_len rfl rfl rfl)) rfl rfl ?_
  refine M0 (Qt.grdF rfl rfl rfl (.hit (.hit (.hit .stop))) (fun hgrd => q_moveC rfl rfl rfl)) rfl rfl ?_
  refine M0 (Qt.grdF rfl rfl rfl (.hit (.hit (.hit (.hit .stop)))) (fun hgrd => q_neq rfl rfl rfl rfl)) rfl rfl ?_;refine M0 (q_or rfl rfl rfl rfl) rfl rfl ?_;refine L_nil ?_
  refine T_n ?_
  refine A_cond rfl (fun h2 => ?_) (fun h2 => ?_)
  · rw [hlt,hlu,hls] at h2
    rw [peer_F (noS2 h2)]
    refine A_seq (A_region ?_);refine M0 (q_assignC rfl rfl rfl) rfl rfl ?_;refine L_nil (T_n (A_ret (T_r (F_r ?_))))
    exact E_tmp rfl rfl (W_end [] (by decide) rfl rfl rfl)
  rw [hlt,hlu,hls] at h2
  simp only [Bool.or_eq_false_iff,Bool.not_eq_false',decide_eq_false_iff_not,Classical.not_not,inR_iff] at h2
  obtain ⟨⟨⟨⟨⟨⟨⟨⟨q8,q9⟩,q10⟩,q11⟩,q12⟩,q13⟩,q14⟩,q15⟩,q16⟩ := h2
  refine AWP.pre (st' := (⟨_,[(1,.o (.c (.ptr 0 0))),(3,I (els x.Tracks).length),(4,I (x.Now.Tick - x.Base.Tick))],[.box ((Enc.e x).map (V1.rd []))]⟩ : St)) ?_ (W_go [0] (by decide) rfl (rfl) (.cons rfl (.cons rfl (.cons rfl (.nil)))))
  refine A_skip (T_n (A_seq (A_seq (A_region ?_))));refine M0 (q_assignC rfl rfl rfl) rfl rfl ?_;refine L_nil (T_n (A_block ?_))
  refine A_loop (fun m st => ∃ k : Nat,k + m = x.Used.length ∧ ((x.Used.take k).all (fun row => rowOk row x.Tracks.length) = true ∧ (∀ i (h : i < x.Saves.length),i < k → x.Saves[i].Tick = x.Base.Tick + i)) ∧ st = (fun k : Nat => (⟨_,[(1,.o (.c (.ptr 0 0))),(3,I (els x.Tracks).length),(4,I (x.Now.Tick - x.Base.Tick)),(5,I k)],[.box ((Enc.e x).map (V1.rd []))]⟩ : St)) k) (x.Used.length) ⟨(fun k : Nat => (⟨_,[(1,.o (.c (.ptr 0 0))),(3,I (els x.Tracks).length),(4,I (x.Now.Tick - x.Base.Tick)),(5,I k)],[.box ((Enc.e x).map (V1.rd []))]⟩ : St)) 0,W_go [0] (by decide) rfl (rfl) (.cons rfl (.cons rfl (.cons rfl (.cons rfl (.nil))))),0,by omega,⟨by simp,fun i _ hi => absurd hi (Nat.not_lt_zero _)⟩,rfl⟩ ?_
  rintro m_A _ ⟨k,hk_A,hp_A,rfl⟩
  obtain ⟨hpa,hpb⟩ := hp_A
  refine A_seq (A_seq (A_region ?_));refine M0 (q_moveC rfl rfl rfl) rfl rfl ?_;refine M0 (q_moveC rfl rfl rfl) rfl rfl ?_;refine M0 (q_lss rfl rfl rfl rfl) rfl rfl ?_
  refine L_nil (T_n ?_)
  refine A_cond rfl (fun h => ?_) (fun h => ?_)
  · have h3 : k < x.Used.length := by have := of_decide_eq_true h; omega
    have h4 : k < x.Saves.length := by omega
    have hat := els_at h3
    have hat2 := els_at h4
    have hc := S_rowOk x.Used[k] (els x.Tracks).length (gUs.2 _ (List.getElem_mem h3))
    rw [hlt] at hc
    cases ho : rowOk x.Used[k] x.Tracks.length with
    | false =>
      rw [ho,← hlt] at hc
      rw [peer_F (fun hp => by have := hp.2.2.2.2.2.1.1; rw [all_no h3 ho] at this; cases this)]
      refine A_skip (T_n (A_seq (A_block (A_seq ?_))))
      refine A_draw [[],[0],[],[0,1,2],[0,1,2,3],[],[0,1,2,3,4,5],[0,1,2,3,4,5,6],[0,1,2,3,4,5,6,7],[0,1,2,3,4,5,6,7,8],[0,1,2,3,4,5,6,7,8,9],[0,1,2,3,4,5,6,7,8],[0,1,2,3,4,5,6,7,8,9,10,11],[0,1,2,3,4,5,6,7,8,9,10,11,12],[0,1,2,3,4,5,6,7,8,9,10,11,12,13],[0,1,2,3,4,5,6,7,8],[0,1,2,3,4,5,6,7,8,15],[0,1,2,3,4,5,6,7,8,15,16],[0,1,2,3,4,5,6,7,8],[0,1,2,3,4,5,6,7,8,15,16,17,18],[0,1,2,3,4,5,6,7,8,9,10,11,12,13,14,15,16,17,18,19],[0,1,2,3,4,5,6,7,8,9,10,11,12,13,14,15,16,17,18,19,20]] [[],[127],[],[127,128,129],[127,128,129,130],[],[127,128,129,130,131,132],[127,128,129,130,131,132,133],[127,128,129,130,131,132,133,134],[127,128,129,130,131,132,133,134,135],[127,128,129,130,131,132,133,134,135,136],[127,128,129,130,131,132,133,134,135],[127,128,129,130,131,132,133,134,135,136,137,138],[127,128,129,130,131,132,133,134,135,136,137,138,139],[127,128,129,130,131,132,133,134,135,136,137,138,139,140],[127,128,129,130,131,132,133,134,135],[127,128,129,130,131,132,133,134,135,142],[127,128,129,130,131,132,133,134,135,142,143],[127,128,129,130,131,132,133,134,135],[127,128,129,130,131,132,133,134,135,142,143,144,145],[127,128,129,130,131,132,133,134,135,136,137,138,139,140,141,142,143,144,145,146],[127,128,129,130,131,132,133,134,135,136,137,138,139,140,141,142,143,144,145,146,147]] [[129,132],[129,132],[127,128,132],[132],[132],[127,128,129,130,131],[],[],[],[138,142,143,144,145,146],[138,142,143,144,145,146],[136,137,142,143,144,145,146],[142,143,144,145,146],[142,143,144,145,146],[142,143,144,145,146],[136,137,138,139,140,141,145],[136,137,138,139,140,141,145],[136,137,138,139,140,141,145],[136,137,138,139,140,141,142,143,144],[136,137,138,139,140,141],[],[]] rfl ?_
      refine DR.step (q_fldp rfl rfl rfl rfl (by decide)) rfl rfl ?_;refine DR.step (q_ld1 rfl rfl rfl rfl rfl) rfl rfl ?_;refine DR.step (q_moveC rfl rfl rfl) rfl rfl ?_
      refine DR.step (q_at rfl rfl rfl rfl (by omega) (by assumption) rfl) rfl rfl ?_;refine DR.step (q_lr1 rfl rfl rfl rfl) rfl rfl ?_;refine DR.step (q_moveC rfl rfl rfl) rfl rfl ?_
      refine DR.step (q_call0 rfl rfl (hc) rfl) rfl rfl ?_;refine DR.step (q_not rfl rfl rfl) rfl rfl ?_;refine DR.step (q_moveC rfl rfl rfl) rfl rfl ?_
      refine DR.step (Qt.no rfl rfl rfl rfl) rfl rfl ?_;refine DR.step (Qt.no rfl rfl rfl rfl) rfl rfl ?_;refine DR.step (Qt.no rfl rfl rfl rfl) rfl rfl ?_
      refine DR.step (Qt.no rfl rfl rfl rfl) rfl rfl ?_;refine DR.step (Qt.no rfl rfl rfl rfl) rfl rfl ?_;refine DR.step (Qt.no rfl rfl rfl rfl) rfl rfl ?_
      refine DR.step (Qt.no rfl rfl rfl rfl) rfl rfl ?_;refine DR.step (Qt.no rfl rfl rfl rfl) rfl rfl ?_;refine DR.step (Qt.no rfl rfl rfl rfl) rfl rfl ?_
      refine DR.step (Qt.no rfl rfl rfl rfl) rfl rfl ?_;refine DR.step (Qt.no rfl rfl rfl rfl) rfl rfl ?_;refine DR.step (Qt.no rfl rfl rfl rfl) rfl rfl ?_
      refine DR.step (q_pickT rfl rfl rfl rfl) rfl rfl ?_;refine DR.stop (by kernel_rfl) (by kernel_rfl) ?_
      refine L_nil (T_n ?_);refine A_ifT rfl ?_;refine A_seq (A_region ?_);refine M0 (q_assignC rfl rfl rfl) rfl rfl ?_;refine L_nil (T_n (A_ret (B_r ?_)))
      refine T_r (T_r (B_r (T_r (F_r ?_))))
      exact E_tmp rfl rfl (W_end [] (by decide) rfl rfl rfl)
    | true =>
      rw [ho,← hlt] at hc
      by_cases hs : x.Saves[k].Tick = x.Base.Tick + k
      · have hb : decide (x.Saves[k].Tick ≠ x.Base.Tick + k) = false := decide_eq_false (fun h => h hs)
        refine A_skip (T_n (A_seq (A_block (A_seq ?_))))
        refine A_draw [[],[0],[],[0,1,2],[0,1,2,3],[],[0,1,2,3,4,5],[0,1,2,3,4,5,6],[0,1,2,3,4,5,6,7],[0,1,2,3,4,5,6,7,8],[0,1,2,3,4,5,6,7,8,9],[0,1,2,3,4,5,6,7,8],[0,1,2,3,4,5,6,7,8,9,10,11],[0,1,2,3,4,5,6,7,8,9,10,11,12],[0,1,2,3,4,5,6,7,8,9,10,11,12,13],[0,1,2,3,4,5,6,7,8],[0,1,2,3,4,5,6,7,8,15],[0,1,2,3,4,5,6,7,8,15,16],[0,1,2,3,4,5,6,7,8],[0,1,2,3,4,5,6,7,8,15,16,17,18],[0,1,2,3,4,5,6,7,8,9,10,11,12,13,14,15,16,17,18,19],[0,1,2,3,4,5,6,7,8,9,10,11,12,13,14,15,16,17,18,19,20]] [[],[127],[],[127,128,129],[127,128,129,130],[],[127,128,129,130,131,132],[127,128,129,130,131,132,133],[127,128,129,130,131,132,133,134],[127,128,129,130,131,132,133,134,135],[127,128,129,130,131,132,133,134,135,136],[127,128,129,130,131,132,133,134,135],[127,128,129,130,131,132,133,134,135,136,137,138],[127,128,129,130,131,132,133,134,135,136,137,138,139],[127,128,129,130,131,132,133,134,135,136,137,138,139,140],[127,128,129,130,131,132,133,134,135],[127,128,129,130,131,132,133,134,135,142],[127,128,129,130,131,132,133,134,135,142,143],[127,128,129,130,131,132,133,134,135],[127,128,129,130,131,132,133,134,135,142,143,144,145],[127,128,129,130,131,132,133,134,135,136,137,138,139,140,141,142,143,144,145,146],[127,128,129,130,131,132,133,134,135,136,137,138,139,140,141,142,143,144,145,146,147]] [[129,132],[129,132],[127,128,132],[132],[132],[127,128,129,130,131],[],[],[],[138,142,143,144,145,146],[138,142,143,144,145,146],[136,137,142,143,144,145,146],[142,143,144,145,146],[142,143,144,145,146],[142,143,144,145,146],[136,137,138,139,140,141,145],[136,137,138,139,140,141,145],[136,137,138,139,140,141,145],[136,137,138,139,140,141,142,143,144],[136,137,138,139,140,141],[],[]] rfl ?_
        refine DR.step (q_fldp rfl rfl rfl rfl (by decide)) rfl rfl ?_;refine DR.step (q_ld1 rfl rfl rfl rfl rfl) rfl rfl ?_;refine DR.step (q_moveC rfl rfl rfl) rfl rfl ?_
        refine DR.step (q_at rfl rfl rfl rfl (by omega) (by assumption) rfl) rfl rfl ?_;refine DR.step (q_lr1 rfl rfl rfl rfl) rfl rfl ?_;refine DR.step (q_moveC rfl rfl rfl) rfl rfl ?_
        refine DR.step (q_call0 rfl rfl (hc) rfl) rfl rfl ?_;refine DR.step (q_not rfl rfl rfl) rfl rfl ?_;refine DR.step (q_moveC rfl rfl rfl) rfl rfl ?_
        refine DR.step (Qt.yes rfl rfl rfl (q_fldp rfl rfl rfl rfl (by decide))) rfl rfl ?_;refine DR.step (Qt.yes rfl rfl rfl (q_ld1 rfl rfl rfl rfl rfl)) rfl rfl ?_
        refine DR.step (Qt.yes rfl rfl rfl (q_moveC rfl rfl rfl)) rfl rfl ?_;refine DR.step (Qt.yes rfl rfl rfl (q_at rfl rfl rfl rfl (by omega) (by assumption) rfl)) rfl rfl ?_
        refine DR.step (Qt.yes rfl rfl rfl (q_fldr rfl rfl rfl rfl (by decide))) rfl rfl ?_;refine DR.step (Qt.yes rfl rfl rfl (q_lr1 rfl rfl rfl rfl)) rfl rfl ?_
        refine DR.step (Qt.yes rfl rfl rfl (q_fldp rfl rfl rfl rfl (by decide))) rfl rfl ?_;refine DR.step (Qt.yes rfl rfl rfl (q_fldp rfl rfl rfl rfl (by decide))) rfl rfl ?_
        refine DR.step (Qt.yes rfl rfl rfl (q_ld1 rfl rfl rfl rfl rfl)) rfl rfl ?_;refine DR.step (Qt.yes rfl rfl rfl (q_moveC rfl rfl rfl)) rfl rfl ?_
        refine DR.step (Qt.yes rfl rfl rfl (q_add rfl rfl rfl rfl (by omega))) rfl rfl ?_;refine DR.step (Qt.yes rfl rfl rfl (q_neqK rfl rfl rfl rfl (by assumption))) rfl rfl ?_
        refine DR.step (q_pickF rfl rfl rfl rfl) rfl rfl ?_;refine DR.stop (by kernel_rfl) (by kernel_rfl) ?_
        refine L_nil (T_n ?_);refine A_ifF rfl ?_;refine A_skip (B_n (T_n (A_region ?_)));refine M0 (q_moveC rfl rfl rfl) rfl rfl ?_
        refine M0 (q_add rfl rfl rfl rfl (by omega)) rfl rfl ?_;refine M0 (q_assignC rfl rfl rfl) rfl rfl ?_;refine L_nil (T_n ?_)
        exact ⟨x.Used.length - (k + 1),by omega,(fun k : Nat => (⟨_,[(1,.o (.c (.ptr 0 0))),(3,I (els x.Tracks).length),(4,I (x.Now.Tick - x.Base.Tick)),(5,I k)],[.box ((Enc.e x).map (V1.rd []))]⟩ : St)) (k + 1),W_go [0] (by decide) rfl (rfl) (.cons rfl (.cons rfl (.cons rfl (.cons rfl (.nil))))),k + 1,by omega,⟨all_next hpa h3 ho,fun i hi hij => by by_cases e : i = k; subst e; exact hs; exact hpb i hi (by omega)⟩,rfl⟩
      · have hb : decide (x.Saves[k].Tick ≠ x.Base.Tick + k) = true := decide_eq_true hs
        rw [peer_F (fun hp => hs (hp.2.2.2.2.2.1.2 k h4))]
        refine A_skip (T_n (A_seq (A_block (A_seq ?_))))
        refine A_draw [[],[0],[],[0,1,2],[0,1,2,3],[],[0,1,2,3,4,5],[0,1,2,3,4,5,6],[0,1,2,3,4,5,6,7],[0,1,2,3,4,5,6,7,8],[0,1,2,3,4,5,6,7,8,9],[0,1,2,3,4,5,6,7,8],[0,1,2,3,4,5,6,7,8,9,10,11],[0,1,2,3,4,5,6,7,8,9,10,11,12],[0,1,2,3,4,5,6,7,8,9,10,11,12,13],[0,1,2,3,4,5,6,7,8],[0,1,2,3,4,5,6,7,8,15],[0,1,2,3,4,5,6,7,8,15,16],[0,1,2,3,4,5,6,7,8],[0,1,2,3,4,5,6,7,8,15,16,17,18],[0,1,2,3,4,5,6,7,8,9,10,11,12,13,14,15,16,17,18,19],[0,1,2,3,4,5,6,7,8,9,10,11,12,13,14,15,16,17,18,19,20]] [[],[127],[],[127,128,129],[127,128,129,130],[],[127,128,129,130,131,132],[127,128,129,130,131,132,133],[127,128,129,130,131,132,133,134],[127,128,129,130,131,132,133,134,135],[127,128,129,130,131,132,133,134,135,136],[127,128,129,130,131,132,133,134,135],[127,128,129,130,131,132,133,134,135,136,137,138],[127,128,129,130,131,132,133,134,135,136,137,138,139],[127,128,129,130,131,132,133,134,135,136,137,138,139,140],[127,128,129,130,131,132,133,134,135],[127,128,129,130,131,132,133,134,135,142],[127,128,129,130,131,132,133,134,135,142,143],[127,128,129,130,131,132,133,134,135],[127,128,129,130,131,132,133,134,135,142,143,144,145],[127,128,129,130,131,132,133,134,135,136,137,138,139,140,141,142,143,144,145,146],[127,128,129,130,131,132,133,134,135,136,137,138,139,140,141,142,143,144,145,146,147]] [[129,132],[129,132],[127,128,132],[132],[132],[127,128,129,130,131],[],[],[],[138,142,143,144,145,146],[138,142,143,144,145,146],[136,137,142,143,144,145,146],[142,143,144,145,146],[142,143,144,145,146],[142,143,144,145,146],[136,137,138,139,140,141,145],[136,137,138,139,140,141,145],[136,137,138,139,140,141,145],[136,137,138,139,140,141,142,143,144],[136,137,138,139,140,141],[],[]] rfl ?_
        refine DR.step (q_fldp rfl rfl rfl rfl (by decide)) rfl rfl ?_;refine DR.step (q_ld1 rfl rfl rfl rfl rfl) rfl rfl ?_;refine DR.step (q_moveC rfl rfl rfl) rfl rfl ?_
        refine DR.step (q_at rfl rfl rfl rfl (by omega) (by assumption) rfl) rfl rfl ?_;refine DR.step (q_lr1 rfl rfl rfl rfl) rfl rfl ?_;refine DR.step (q_moveC rfl rfl rfl) rfl rfl ?_
        refine DR.step (q_call0 rfl rfl (hc) rfl) rfl rfl ?_;refine DR.step (q_not rfl rfl rfl) rfl rfl ?_;refine DR.step (q_moveC rfl rfl rfl) rfl rfl ?_
        refine DR.step (Qt.yes rfl rfl rfl (q_fldp rfl rfl rfl rfl (by decide))) rfl rfl ?_;refine DR.step (Qt.yes rfl rfl rfl (q_ld1 rfl rfl rfl rfl rfl)) rfl rfl ?_
        refine DR.step (Qt.yes rfl rfl rfl (q_moveC rfl rfl rfl)) rfl rfl ?_;refine DR.step (Qt.yes rfl rfl rfl (q_at rfl rfl rfl rfl (by omega) (by assumption) rfl)) rfl rfl ?_
        refine DR.step (Qt.yes rfl rfl rfl (q_fldr rfl rfl rfl rfl (by decide))) rfl rfl ?_;refine DR.step (Qt.yes rfl rfl rfl (q_lr1 rfl rfl rfl rfl)) rfl rfl ?_
        refine DR.step (Qt.yes rfl rfl rfl (q_fldp rfl rfl rfl rfl (by decide))) rfl rfl ?_;refine DR.step (Qt.yes rfl rfl rfl (q_fldp rfl rfl rfl rfl (by decide))) rfl rfl ?_
        refine DR.step (Qt.yes rfl rfl rfl (q_ld1 rfl rfl rfl rfl rfl)) rfl rfl ?_;refine DR.step (Qt.yes rfl rfl rfl (q_moveC rfl rfl rfl)) rfl rfl ?_
        refine DR.step (Qt.yes rfl rfl rfl (q_add rfl rfl rfl rfl (by omega))) rfl rfl ?_;refine DR.step (Qt.yes rfl rfl rfl (q_neqK rfl rfl rfl rfl (by assumption))) rfl rfl ?_
        refine DR.step (q_pickF rfl rfl rfl rfl) rfl rfl ?_;refine DR.stop (by kernel_rfl) (by kernel_rfl) ?_
        refine L_nil (T_n ?_);refine A_ifT rfl ?_;refine A_seq (A_region ?_);refine M0 (q_assignC rfl rfl rfl) rfl rfl ?_;refine L_nil (T_n (A_ret (B_r ?_)))
        refine T_r (T_r (B_r (T_r (F_r ?_))))
        exact E_tmp rfl rfl (W_end [] (by decide) rfl rfl rfl)
  have h3 : ¬ k < x.Used.length := by have := of_decide_eq_false h; omega
  have hall := all_end hpa (by omega)
  have hme : x.Me.toNat < x.Tracks.length := by omega
  have hat := at_nat (xs := x.Tracks) hme
  have hti := els_len x.Tracks[x.Me.toNat].Inputs
  have hla := lenAt_is hme
  rw [← fin_eq ⟨q1,q2,q3,q4⟩ ⟨by omega,by omega,q7⟩ ⟨q8,q9,q10⟩ ⟨q11,q12,q13⟩ ⟨q14,q15,q16⟩ ⟨hall,fun i hi => hpb i hi (by omega)⟩,← hlm]
  by_cases k1 : x.Base.Tick ≤ (knownTicks x.Tracks : Nat)
  · have hb1 : decide (x.Base.Tick ≤ ((knownTicks x.Tracks : Nat) : Int)) = true := decide_eq_true k1
    by_cases k2 : x.Now.Tick ≤ (lenAt x.Tracks x.Me.toNat : Nat)
    · have hb2 : decide (x.Now.Tick ≤ ((els x.Tracks[x.Me.toNat].Inputs).length : Int)) = true := decide_eq_true (by omega)
      rw [hb1,decide_eq_true k2]
      refine A_exit (T_x (T_x (B_xs (T_n (A_seq ?_)))))
      refine A_draw [[],[0],[0,1],[],[3],[3,4],[0,1,2,3,4,5],[0,1,2,3,4,5,6],[0,1,2,3,4,5,6,7],[0,1,2,3,4,5,6,7,8],[0,1,2,3,4,5,6,7],[0,1,2,3,4,5,6,7,10],[0,1,2,3,4,5,6,7,8,9,10,11],[0,1,2,3,4,5,6,7,8,9,10,11,12],[0,1,2,3,4,5,6,7,8,9,10,11,12,13],[0,1,2,3,4,5,6,7,8,9,10,11,12,13,14],[0,1,2,3,4,5,6,7],[0,1,2,3,4,5,6,7,16],[0,1,2,3,4,5,6,7,16,17],[0,1,2,3,4,5,6,7,8,9,10,11,12,13,14,15,16,17,18],[0,1,2,3,4,5,6,7,8,9,10,11,12,13,14,15,16,17,18,19],[0,1,2,3,4,5,6,7,8,9,10,11,12,13,14,15,16,17,18,19,20],[0,1,2,3,4,5,6,7,8,9,10,11,12,13,14,15,16,17,18,19,20,21],[0,1,2,3,4,5,6,7,8,9,10,11,12,13,14,15,16,17,18,19,20,21,22],[0,1,2,3,4,5,6,7,8,9,10,11,12,13,14,15,16,17,18,19,20,21,22,23],[0,1,2,3,4,5,6,7,8,9,10,11,12,13,14,15,16,17,18,19,20,21],[0,1,2,3,4,5,6,7,8,9,10,11,12,13,14,15,16,17,18,19,20,21,25],[0,1,2,3,4,5,6,7,8,9,10,11,12,13,14,15,16,17,18,19,20,21,25,26],[0,1,2,3,4,5,6,7,8,9,10,11,12,13,14,15,16,17,18,19,20,21,25,26,27],[0,1,2,3,4,5,6,7,8,9,10,11,12,13,14,15,16,17,18,19,20,21,22,23,24,25,26,27,28],[0,1,2,3,4,5,6,7,8,9,10,11,12,13,14,15,16,17,18,19,20,21,22,23,24,25,26,27,28,29],[0,1,2,3,4,5,6,7,8,9,10,11,12,13,14,15,16,17,18,19,20,21,22,23,24,25,26,27,28,29,30]] [[],[149],[149,150],[],[152],[152,153],[149,150,151,152,153,154],[149,150,151,152,153,154,155],[149,150,151,152,153,154,155,156],[149,150,151,152,153,154,155,156,157],[149,150,151,152,153,154,155,156],[149,150,151,152,153,154,155,156,159],[149,150,151,152,153,154,155,156,157,158,159,160],[149,150,151,152,153,154,155,156,157,158,159,160,161],[149,150,151,152,153,154,155,156,157,158,159,160,161,162],[149,150,151,152,153,154,155,156,157,158,159,160,161,162,163],[149,150,151,152,153,154,155,156],[149,150,151,152,153,154,155,156,165],[149,150,151,152,153,154,155,156,165,166],[149,150,151,152,153,154,155,156,157,158,159,160,161,162,163,164,165,166,167],[149,150,151,152,153,154,155,156,157,158,159,160,161,162,163,164,165,166,167,168],[149,150,151,152,153,154,155,156,157,158,159,160,161,162,163,164,165,166,167,168,169],[149,150,151,152,153,154,155,156,157,158,159,160,161,162,163,164,165,166,167,168,169,170],[149,150,151,152,153,154,155,156,157,158,159,160,161,162,163,164,165,166,167,168,169,170,171],[149,150,151,152,153,154,155,156,157,158,159,160,161,162,163,164,165,166,167,168,169,170,171,172],[149,150,151,152,153,154,155,156,157,158,159,160,161,162,163,164,165,166,167,168,169,170],[149,150,151,152,153,154,155,156,157,158,159,160,161,162,163,164,165,166,167,168,169,170,174],[149,150,151,152,153,154,155,156,157,158,159,160,161,162,163,164,165,166,167,168,169,170,174,175],[149,150,151,152,153,154,155,156,157,158,159,160,161,162,163,164,165,166,167,168,169,170,174,175,176],[149,150,151,152,153,154,155,156,157,158,159,160,161,162,163,164,165,166,167,168,169,170,171,172,173,174,175,176,177],[149,150,151,152,153,154,155,156,157,158,159,160,161,162,163,164,165,166,167,168,169,170,171,172,173,174,175,176,177,178],[149,150,151,152,153,154,155,156,157,158,159,160,161,162,163,164,165,166,167,168,169,170,171,172,173,174,175,176,177,178,179]] [[152,153,154],[152,153,154],[152,153,154],[149,150,151],[149,150,151],[149,150,151],[],[],[159,160,165,166,167],[159,160,165,166,167],[157,158,165,166,167],[157,158,165,166,167],[165,166,167],[165,166,167],[165,166,167],[165,166,167],[157,158,159,160,161,162,163,164],[157,158,159,160,161,162,163,164],[157,158,159,160,161,162,163,164],[],[],[],[174,175,176,177],[174,175,176,177],[174,175,176,177],[171,172,173],[171,172,173],[171,172,173],[171,172,173],[],[],[]] rfl ?_
      refine DR.step (q_fldp rfl rfl rfl rfl (by decide)) rfl rfl ?_;refine DR.step (q_fldp rfl rfl rfl rfl (by decide)) rfl rfl ?_;refine DR.step (q_ld1 rfl rfl rfl rfl rfl) rfl rfl ?_
      refine DR.step (q_fldp rfl rfl rfl rfl (by decide)) rfl rfl ?_;refine DR.step (q_ld1 rfl rfl rfl rfl rfl) rfl rfl ?_;refine DR.step (q_call0 rfl rfl (c6) rfl) rfl rfl ?_
      refine DR.step (q_leqK rfl rfl rfl rfl (by assumption)) rfl rfl ?_;refine DR.step (q_moveC rfl rfl rfl) rfl rfl ?_
      refine DR.step (Qt.yes rfl rfl rfl (q_fldp rfl rfl rfl rfl (by decide))) rfl rfl ?_;refine DR.step (Qt.yes rfl rfl rfl (q_ld1 rfl rfl rfl rfl rfl)) rfl rfl ?_
      refine DR.step (Qt.yes rfl rfl rfl (q_fldp rfl rfl rfl rfl (by decide))) rfl rfl ?_;refine DR.step (Qt.yes rfl rfl rfl (q_ld1 rfl rfl rfl rfl rfl)) rfl rfl ?_
      refine DR.step (Qt.yes rfl rfl rfl (q_at rfl rfl rfl rfl (by omega) (by assumption) rfl)) rfl rfl ?_
      refine DR.step (Qt.yes rfl rfl rfl (q_fldr rfl rfl rfl rfl (by decide))) rfl rfl ?_;refine DR.step (Qt.yes rfl rfl rfl (q_lr1 rfl rfl rfl rfl)) rfl rfl ?_
      refine DR.step (Qt.yes rfl rfl rfl (q_len rfl rfl rfl)) rfl rfl ?_;refine DR.step (Qt.yes rfl rfl rfl (q_fldp rfl rfl rfl rfl (by decide))) rfl rfl ?_
      refine DR.step (Qt.yes rfl rfl rfl (q_fldp rfl rfl rfl rfl (by decide))) rfl rfl ?_;refine DR.step (Qt.yes rfl rfl rfl (q_ld1 rfl rfl rfl rfl rfl)) rfl rfl ?_
      refine DR.step (Qt.yes rfl rfl rfl (q_geqK rfl rfl rfl rfl (by assumption))) rfl rfl ?_;refine DR.step (q_pickT rfl rfl rfl rfl) rfl rfl ?_
      refine DR.step (q_moveC rfl rfl rfl) rfl rfl ?_;refine DR.step (Qt.yes rfl rfl rfl (q_fldp rfl rfl rfl rfl (by decide))) rfl rfl ?_
      refine DR.step (Qt.yes rfl rfl rfl (q_ld1 rfl rfl rfl rfl rfl)) rfl rfl ?_;refine DR.step (Qt.yes rfl rfl rfl (q_len rfl rfl rfl)) rfl rfl ?_
      refine DR.step (Qt.yes rfl rfl rfl (q_fldp rfl rfl rfl rfl (by decide))) rfl rfl ?_;refine DR.step (Qt.yes rfl rfl rfl (q_fldp rfl rfl rfl rfl (by decide))) rfl rfl ?_
      refine DR.step (Qt.yes rfl rfl rfl (q_ld1 rfl rfl rfl rfl rfl)) rfl rfl ?_;refine DR.step (Qt.yes rfl rfl rfl (q_add rfl rfl rfl rfl (by omega))) rfl rfl ?_
      refine DR.step (Qt.yes rfl rfl rfl (q_eql rfl rfl rfl rfl)) rfl rfl ?_;refine DR.step (q_pickT rfl rfl rfl rfl) rfl rfl ?_;refine DR.step (q_assignC rfl rfl rfl) rfl rfl ?_
      refine DR.stop (by kernel_rfl) (by kernel_rfl) ?_
      refine L_nil (T_n (A_ret (F_r ?_)))
      exact E_tmp rfl rfl (W_end [] (by decide) rfl rfl rfl)
    · have hb2 : decide (x.Now.Tick ≤ ((els x.Tracks[x.Me.toNat].Inputs).length : Int)) = false := decide_eq_false (by omega)
      rw [hb1,decide_eq_false k2]
      refine A_exit (T_x (T_x (B_xs (T_n (A_seq ?_)))))
      refine A_draw [[],[0],[0,1],[],[3],[3,4],[0,1,2,3,4,5],[0,1,2,3,4,5,6],[0,1,2,3,4,5,6,7],[0,1,2,3,4,5,6,7,8],[0,1,2,3,4,5,6,7],[0,1,2,3,4,5,6,7,10],[0,1,2,3,4,5,6,7,8,9,10,11],[0,1,2,3,4,5,6,7,8,9,10,11,12],[0,1,2,3,4,5,6,7,8,9,10,11,12,13],[0,1,2,3,4,5,6,7,8,9,10,11,12,13,14],[0,1,2,3,4,5,6,7],[0,1,2,3,4,5,6,7,16],[0,1,2,3,4,5,6,7,16,17],[0,1,2,3,4,5,6,7,8,9,10,11,12,13,14,15,16,17,18],[0,1,2,3,4,5,6,7,8,9,10,11,12,13,14,15,16,17,18,19],[0,1,2,3,4,5,6,7,8,9,10,11,12,13,14,15,16,17,18,19,20],[0,1,2,3,4,5,6,7,8,9,10,11,12,13,14,15,16,17,18,19,20,21],[0,1,2,3,4,5,6,7,8,9,10,11,12,13,14,15,16,17,18,19,20,21,22],[0,1,2,3,4,5,6,7,8,9,10,11,12,13,14,15,16,17,18,19,20,21,22,23],[0,1,2,3,4,5,6,7,8,9,10,11,12,13,14,15,16,17,18,19,20,21],[0,1,2,3,4,5,6,7,8,9,10,11,12,13,14,15,16,17,18,19,20,21,25],[0,1,2,3,4,5,6,7,8,9,10,11,12,13,14,15,16,17,18,19,20,21,25,26],[0,1,2,3,4,5,6,7,8,9,10,11,12,13,14,15,16,17,18,19,20,21,25,26,27],[0,1,2,3,4,5,6,7,8,9,10,11,12,13,14,15,16,17,18,19,20,21,22,23,24,25,26,27,28],[0,1,2,3,4,5,6,7,8,9,10,11,12,13,14,15,16,17,18,19,20,21,22,23,24,25,26,27,28,29],[0,1,2,3,4,5,6,7,8,9,10,11,12,13,14,15,16,17,18,19,20,21,22,23,24,25,26,27,28,29,30]] [[],[149],[149,150],[],[152],[152,153],[149,150,151,152,153,154],[149,150,151,152,153,154,155],[149,150,151,152,153,154,155,156],[149,150,151,152,153,154,155,156,157],[149,150,151,152,153,154,155,156],[149,150,151,152,153,154,155,156,159],[149,150,151,152,153,154,155,156,157,158,159,160],[149,150,151,152,153,154,155,156,157,158,159,160,161],[149,150,151,152,153,154,155,156,157,158,159,160,161,162],[149,150,151,152,153,154,155,156,157,158,159,160,161,162,163],[149,150,151,152,153,154,155,156],[149,150,151,152,153,154,155,156,165],[149,150,151,152,153,154,155,156,165,166],[149,150,151,152,153,154,155,156,157,158,159,160,161,162,163,164,165,166,167],[149,150,151,152,153,154,155,156,157,158,159,160,161,162,163,164,165,166,167,168],[149,150,151,152,153,154,155,156,157,158,159,160,161,162,163,164,165,166,167,168,169],[149,150,151,152,153,154,155,156,157,158,159,160,161,162,163,164,165,166,167,168,169,170],[149,150,151,152,153,154,155,156,157,158,159,160,161,162,163,164,165,166,167,168,169,170,171],[149,150,151,152,153,154,155,156,157,158,159,160,161,162,163,164,165,166,167,168,169,170,171,172],[149,150,151,152,153,154,155,156,157,158,159,160,161,162,163,164,165,166,167,168,169,170],[149,150,151,152,153,154,155,156,157,158,159,160,161,162,163,164,165,166,167,168,169,170,174],[149,150,151,152,153,154,155,156,157,158,159,160,161,162,163,164,165,166,167,168,169,170,174,175],[149,150,151,152,153,154,155,156,157,158,159,160,161,162,163,164,165,166,167,168,169,170,174,175,176],[149,150,151,152,153,154,155,156,157,158,159,160,161,162,163,164,165,166,167,168,169,170,171,172,173,174,175,176,177],[149,150,151,152,153,154,155,156,157,158,159,160,161,162,163,164,165,166,167,168,169,170,171,172,173,174,175,176,177,178],[149,150,151,152,153,154,155,156,157,158,159,160,161,162,163,164,165,166,167,168,169,170,171,172,173,174,175,176,177,178,179]] [[152,153,154],[152,153,154],[152,153,154],[149,150,151],[149,150,151],[149,150,151],[],[],[159,160,165,166,167],[159,160,165,166,167],[157,158,165,166,167],[157,158,165,166,167],[165,166,167],[165,166,167],[165,166,167],[165,166,167],[157,158,159,160,161,162,163,164],[157,158,159,160,161,162,163,164],[157,158,159,160,161,162,163,164],[],[],[],[174,175,176,177],[174,175,176,177],[174,175,176,177],[171,172,173],[171,172,173],[171,172,173],[171,172,173],[],[],[]] rfl ?_
      refine DR.step (q_fldp rfl rfl rfl rfl (by decide)) rfl rfl ?_;refine DR.step (q_fldp rfl rfl rfl rfl (by decide)) rfl rfl ?_;refine DR.step (q_ld1 rfl rfl rfl rfl rfl) rfl rfl ?_
      refine DR.step (q_fldp rfl rfl rfl rfl (by decide)) rfl rfl ?_;refine DR.step (q_ld1 rfl rfl rfl rfl rfl) rfl rfl ?_;refine DR.step (q_call0 rfl rfl (c6) rfl) rfl rfl ?_
      refine DR.step (q_leqK rfl rfl rfl rfl (by assumption)) rfl rfl ?_;refine DR.step (q_moveC rfl rfl rfl) rfl rfl ?_
      refine DR.step (Qt.yes rfl rfl rfl (q_fldp rfl rfl rfl rfl (by decide))) rfl rfl ?_;refine DR.step (Qt.yes rfl rfl rfl (q_ld1 rfl rfl rfl rfl rfl)) rfl rfl ?_
      refine DR.step (Qt.yes rfl rfl rfl (q_fldp rfl rfl rfl rfl (by decide))) rfl rfl ?_;refine DR.step (Qt.yes rfl rfl rfl (q_ld1 rfl rfl rfl rfl rfl)) rfl rfl ?_
      refine DR.step (Qt.yes rfl rfl rfl (q_at rfl rfl rfl rfl (by omega) (by assumption) rfl)) rfl rfl ?_
      refine DR.step (Qt.yes rfl rfl rfl (q_fldr rfl rfl rfl rfl (by decide))) rfl rfl ?_;refine DR.step (Qt.yes rfl rfl rfl (q_lr1 rfl rfl rfl rfl)) rfl rfl ?_
      refine DR.step (Qt.yes rfl rfl rfl (q_len rfl rfl rfl)) rfl rfl ?_;refine DR.step (Qt.yes rfl rfl rfl (q_fldp rfl rfl rfl rfl (by decide))) rfl rfl ?_
      refine DR.step (Qt.yes rfl rfl rfl (q_fldp rfl rfl rfl rfl (by decide))) rfl rfl ?_;refine DR.step (Qt.yes rfl rfl rfl (q_ld1 rfl rfl rfl rfl rfl)) rfl rfl ?_
      refine DR.step (Qt.yes rfl rfl rfl (q_geqK rfl rfl rfl rfl (by assumption))) rfl rfl ?_;refine DR.step (q_pickT rfl rfl rfl rfl) rfl rfl ?_
      refine DR.step (q_moveC rfl rfl rfl) rfl rfl ?_;refine DR.step (Qt.no rfl rfl rfl rfl) rfl rfl ?_;refine DR.step (Qt.no rfl rfl rfl rfl) rfl rfl ?_
      refine DR.step (Qt.no rfl rfl rfl rfl) rfl rfl ?_;refine DR.step (Qt.no rfl rfl rfl rfl) rfl rfl ?_;refine DR.step (Qt.no rfl rfl rfl rfl) rfl rfl ?_
      refine DR.step (Qt.no rfl rfl rfl rfl) rfl rfl ?_;refine DR.step (Qt.no rfl rfl rfl rfl) rfl rfl ?_;refine DR.step (Qt.no rfl rfl rfl rfl) rfl rfl ?_
      refine DR.step (q_pickF rfl rfl rfl rfl) rfl rfl ?_;refine DR.step (q_assignC rfl rfl rfl) rfl rfl ?_;refine DR.stop (by kernel_rfl) (by kernel_rfl) ?_
      refine L_nil (T_n (A_ret (F_r ?_)))
      exact E_tmp rfl rfl (W_end [] (by decide) rfl rfl rfl)
  · have hb1 : decide (x.Base.Tick ≤ ((knownTicks x.Tracks : Nat) : Int)) = false := decide_eq_false k1
    rw [hb1]
    refine A_exit (T_x (T_x (B_xs (T_n (A_seq ?_)))))
    refine A_draw [[],[0],[0,1],[],[3],[3,4],[0,1,2,3,4,5],[0,1,2,3,4,5,6],[0,1,2,3,4,5,6,7],[0,1,2,3,4,5,6,7,8],[0,1,2,3,4,5,6,7],[0,1,2,3,4,5,6,7,10],[0,1,2,3,4,5,6,7,8,9,10,11],[0,1,2,3,4,5,6,7,8,9,10,11,12],[0,1,2,3,4,5,6,7,8,9,10,11,12,13],[0,1,2,3,4,5,6,7,8,9,10,11,12,13,14],[0,1,2,3,4,5,6,7],[0,1,2,3,4,5,6,7,16],[0,1,2,3,4,5,6,7,16,17],[0,1,2,3,4,5,6,7,8,9,10,11,12,13,14,15,16,17,18],[0,1,2,3,4,5,6,7,8,9,10,11,12,13,14,15,16,17,18,19],[0,1,2,3,4,5,6,7,8,9,10,11,12,13,14,15,16,17,18,19,20],[0,1,2,3,4,5,6,7,8,9,10,11,12,13,14,15,16,17,18,19,20,21],[0,1,2,3,4,5,6,7,8,9,10,11,12,13,14,15,16,17,18,19,20,21,22],[0,1,2,3,4,5,6,7,8,9,10,11,12,13,14,15,16,17,18,19,20,21,22,23],[0,1,2,3,4,5,6,7,8,9,10,11,12,13,14,15,16,17,18,19,20,21],[0,1,2,3,4,5,6,7,8,9,10,11,12,13,14,15,16,17,18,19,20,21,25],[0,1,2,3,4,5,6,7,8,9,10,11,12,13,14,15,16,17,18,19,20,21,25,26],[0,1,2,3,4,5,6,7,8,9,10,11,12,13,14,15,16,17,18,19,20,21,25,26,27],[0,1,2,3,4,5,6,7,8,9,10,11,12,13,14,15,16,17,18,19,20,21,22,23,24,25,26,27,28],[0,1,2,3,4,5,6,7,8,9,10,11,12,13,14,15,16,17,18,19,20,21,22,23,24,25,26,27,28,29],[0,1,2,3,4,5,6,7,8,9,10,11,12,13,14,15,16,17,18,19,20,21,22,23,24,25,26,27,28,29,30]] [[],[149],[149,150],[],[152],[152,153],[149,150,151,152,153,154],[149,150,151,152,153,154,155],[149,150,151,152,153,154,155,156],[149,150,151,152,153,154,155,156,157],[149,150,151,152,153,154,155,156],[149,150,151,152,153,154,155,156,159],[149,150,151,152,153,154,155,156,157,158,159,160],[149,150,151,152,153,154,155,156,157,158,159,160,161],[149,150,151,152,153,154,155,156,157,158,159,160,161,162],[149,150,151,152,153,154,155,156,157,158,159,160,161,162,163],[149,150,151,152,153,154,155,156],[149,150,151,152,153,154,155,156,165],[149,150,151,152,153,154,155,156,165,166],[149,150,151,152,153,154,155,156,157,158,159,160,161,162,163,164,165,166,167],[149,150,151,152,153,154,155,156,157,158,159,160,161,162,163,164,165,166,167,168],[149,150,151,152,153,154,155,156,157,158,159,160,161,162,163,164,165,166,167,168,169],[149,150,151,152,153,154,155,156,157,158,159,160,161,162,163,164,165,166,167,168,169,170],[149,150,151,152,153,154,155,156,157,158,159,160,161,162,163,164,165,166,167,168,169,170,171],[149,150,151,152,153,154,155,156,157,158,159,160,161,162,163,164,165,166,167,168,169,170,171,172],[149,150,151,152,153,154,155,156,157,158,159,160,161,162,163,164,165,166,167,168,169,170],[149,150,151,152,153,154,155,156,157,158,159,160,161,162,163,164,165,166,167,168,169,170,174],[149,150,151,152,153,154,155,156,157,158,159,160,161,162,163,164,165,166,167,168,169,170,174,175],[149,150,151,152,153,154,155,156,157,158,159,160,161,162,163,164,165,166,167,168,169,170,174,175,176],[149,150,151,152,153,154,155,156,157,158,159,160,161,162,163,164,165,166,167,168,169,170,171,172,173,174,175,176,177],[149,150,151,152,153,154,155,156,157,158,159,160,161,162,163,164,165,166,167,168,169,170,171,172,173,174,175,176,177,178],[149,150,151,152,153,154,155,156,157,158,159,160,161,162,163,164,165,166,167,168,169,170,171,172,173,174,175,176,177,178,179]] [[152,153,154],[152,153,154],[152,153,154],[149,150,151],[149,150,151],[149,150,151],[],[],[159,160,165,166,167],[159,160,165,166,167],[157,158,165,166,167],[157,158,165,166,167],[165,166,167],[165,166,167],[165,166,167],[165,166,167],[157,158,159,160,161,162,163,164],[157,158,159,160,161,162,163,164],[157,158,159,160,161,162,163,164],[],[],[],[174,175,176,177],[174,175,176,177],[174,175,176,177],[171,172,173],[171,172,173],[171,172,173],[171,172,173],[],[],[]] rfl ?_
    refine DR.step (q_fldp rfl rfl rfl rfl (by decide)) rfl rfl ?_;refine DR.step (q_fldp rfl rfl rfl rfl (by decide)) rfl rfl ?_;refine DR.step (q_ld1 rfl rfl rfl rfl rfl) rfl rfl ?_
    refine DR.step (q_fldp rfl rfl rfl rfl (by decide)) rfl rfl ?_;refine DR.step (q_ld1 rfl rfl rfl rfl rfl) rfl rfl ?_;refine DR.step (q_call0 rfl rfl (c6) rfl) rfl rfl ?_
    refine DR.step (q_leqK rfl rfl rfl rfl (by assumption)) rfl rfl ?_;refine DR.step (q_moveC rfl rfl rfl) rfl rfl ?_;refine DR.step (Qt.no rfl rfl rfl rfl) rfl rfl ?_
    refine DR.step (Qt.no rfl rfl rfl rfl) rfl rfl ?_;refine DR.step (Qt.no rfl rfl rfl rfl) rfl rfl ?_;refine DR.step (Qt.no rfl rfl rfl rfl) rfl rfl ?_
    refine DR.step (Qt.no rfl rfl rfl rfl) rfl rfl ?_;refine DR.step (Qt.no rfl rfl rfl rfl) rfl rfl ?_;refine DR.step (Qt.no rfl rfl rfl rfl) rfl rfl ?_
    refine DR.step (Qt.no rfl rfl rfl rfl) rfl rfl ?_;refine DR.step (Qt.no rfl rfl rfl rfl) rfl rfl ?_;refine DR.step (Qt.no rfl rfl rfl rfl) rfl rfl ?_
    refine DR.step (Qt.no rfl rfl rfl rfl) rfl rfl ?_;refine DR.step (Qt.no rfl rfl rfl rfl) rfl rfl ?_;refine DR.step (q_pickF rfl rfl rfl rfl) rfl rfl ?_
    refine DR.step (q_moveC rfl rfl rfl) rfl rfl ?_;refine DR.step (Qt.no rfl rfl rfl rfl) rfl rfl ?_;refine DR.step (Qt.no rfl rfl rfl rfl) rfl rfl ?_
    refine DR.step (Qt.no rfl rfl rfl rfl) rfl rfl ?_;refine DR.step (Qt.no rfl rfl rfl rfl) rfl rfl ?_;refine DR.step (Qt.no rfl rfl rfl rfl) rfl rfl ?_
    refine DR.step (Qt.no rfl rfl rfl rfl) rfl rfl ?_;refine DR.step (Qt.no rfl rfl rfl rfl) rfl rfl ?_;refine DR.step (Qt.no rfl rfl rfl rfl) rfl rfl ?_
    refine DR.step (q_pickF rfl rfl rfl rfl) rfl rfl ?_;refine DR.step (q_assignC rfl rfl rfl) rfl rfl ?_;refine DR.stop (by kernel_rfl) (by kernel_rfl) ?_
    refine L_nil (T_n (A_ret (F_r ?_)))
    exact E_tmp rfl rfl (W_end [] (by decide) rfl rfl rfl)
end Go.Proofs.YtbpebmolbdplmaaGreat
end
