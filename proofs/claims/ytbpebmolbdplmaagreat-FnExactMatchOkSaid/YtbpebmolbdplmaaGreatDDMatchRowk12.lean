/-
  MatchOk in the reference, second part; TicksApart, in the program and in the reference.
  Conditions: none.
  How the laws count, copy and compare slices of flights, wires, paces, spectators, alarms and peers. No statement of the program is proved here.
  Conditions: lists of at most 2^20 elements.
  How the laws count, copy and compare slices of peers. No statement of the program is proved here.
  Conditions: lists of at most 2^20 elements.
-/
import Derived.Test.YtbpebmolbdplmaaGreatDDMatchRowk9
import Derived.Test.YtbpebmolbdplmaaGreatDDMatchRowk11
section
set_option linter.unusedSimpArgs false
set_option linter.unusedVariables false
set_option maxRecDepth 8000
namespace Go.Proofs.YtbpebmolbdplmaaGreat
open Go.RowKit

theorem script_neg (s : List Int) : decide (scriptIn s 0 0 < 0) = !scriptOk s := by
  cases h : scriptOk s with
  | false =>
    rw [script_no (by rw [h]; simp)]
    rfl
  | true =>
    obtain ⟨hi,h2,h3,h4⟩ := script_at (xs := s) (d := 0) (t := 0) h rfl (by omega) (by omega)
    rw [h4]
    have hin : inOk s = true := by unfold scriptOk at h; rw [Bool.and_eq_true] at h; exact h.2
    have := List.all_eq_true.1 hin _ (List.getElem_mem hi)
    rw [inR_iff] at this
    exact decide_eq_false (by omega)
section
variable {m : TMatch} {k n : Nat} {p : TPeer} {s : List Int}
theorem pinS_no (hn : n = m.Scripts.length) (h : ((((((decide (scriptIn s 0 0 < 0) || !peerOk p) || decide (p.Me ≠ (k : Int))) || !decide (p.Base.Level = m.Level)) || decide (p.Seed ≠ m.Seed)) || decide (p.Delay ≠ m.Delay)) || decide (((els p.Tracks).length : Int) ≠ (n : Int))) = true) : ¬ (scriptOk s = true ∧ peerIn m k p = true) := fun ⟨hs,hp⟩ => by
  obtain ⟨⟨a,b,c⟩,d,e,f⟩ := pin_spec hp
  rw [script_neg,hs,a,decide_eq_false (fun q => q b),decide_eq_true d,decide_eq_false (fun q => q e),decide_eq_false (fun q => q f),els_len,hn,decide_eq_false (fun q => q c)] at h
  exact absurd h (by decide)
theorem pinS_yes (hn : n = m.Scripts.length) (h : ((((((decide (scriptIn s 0 0 < 0) || !peerOk p) || decide (p.Me ≠ (k : Int))) || !decide (p.Base.Level = m.Level)) || decide (p.Seed ≠ m.Seed)) || decide (p.Delay ≠ m.Delay)) || decide (((els p.Tracks).length : Int) ≠ (n : Int))) = false) : scriptOk s = true ∧ peerIn m k p = true := by
  rw [script_neg,hn] at h
  simp only [Bool.or_eq_false_iff,Bool.not_eq_false',decide_eq_false_iff_not,Classical.not_not,decide_eq_true_eq,els_len] at h
  obtain ⟨⟨⟨⟨⟨⟨a,b⟩,c⟩,d⟩,e⟩,f⟩,g⟩ := h
  simp only [peerIn,Bool.and_eq_true,decide_eq_true_eq]
  exact ⟨a,⟨⟨b,c⟩,g⟩,⟨d,e⟩,f⟩
theorem winS_no {s : TSpectator} {l : TWire} (hn : n = m.Scripts.length) (h : (((!wireOk l || !worldOk s.World) || !decide (s.World.Level = m.Level)) || decide (((els s.World.Scores).length : Int) ≠ (n : Int))) = true) : ¬ watcherIn m s l = true := fun hp => by
  obtain ⟨⟨a,b⟩,c,d⟩ := win_spec hp
  rw [a,b,decide_eq_true c,els_len,hn,decide_eq_false (fun q => q d)] at h
  exact absurd h (by decide)
theorem winS_yes {s : TSpectator} {l : TWire} (hn : n = m.Scripts.length) (h : (((!wireOk l || !worldOk s.World) || !decide (s.World.Level = m.Level)) || decide (((els s.World.Scores).length : Int) ≠ (n : Int))) = false) : watcherIn m s l = true := by
  rw [hn] at h
  simp only [Bool.or_eq_false_iff,Bool.not_eq_false',decide_eq_false_iff_not,Classical.not_not,decide_eq_true_eq,els_len] at h
  simp only [watcherIn,Bool.and_eq_true,decide_eq_true_eq]
  exact ⟨h.1.1,h.1.2,h.2⟩
theorem match_S (hH : HeadP m) (hS : 1 ≤ m.Scripts.length ∧ m.Scripts.length ≤ 4) (hA : m.Scripts.all scriptOk = true) (hP : PeersP m) (hW : WatchersP m) : linksM m = matchOk m := by
  rw [← match_I hH hS hA hP,show watchersM m = true from dT hW,Bool.and_true]
end
set_option maxHeartbeats 8000000 in
theorem S_MatchOk (x : TMatch) (hg : Enc.gd x) : Con Tryz.prog 6 [] [ag x] [] (B (matchOk x)) := by
  have hg0 := hg
  obtain ⟨gL,gS,gD,gSc,gP,gW,gPa,gA,gC,gWa,gLi,gAl,gB⟩ := hg
  have hl := els_len x.Scripts
  have hx := gSc.1
  have hlp := els_len x.Peers
  have hlw := els_len x.Watchers
  have hll := els_len x.Lines
  have c1 := S_LevelOk x.Level gL
  refine Con.of Tryz.func6 rfl Tryz.ntmps6 rfl (fun E => ?_)
  refine A_seq (A_region ?_);refine M1 (q_boxN rfl rfl rfl rfl) rfl rfl ?_;refine M0 (q_assignC rfl rfl rfl) rfl rfl ?_;refine L_nil (T_n (A_seq ?_))
  refine A_region ?_;refine M0 (q_fldp rfl rfl rfl rfl (by decide)) rfl rfl ?_;refine M0 (q_ld1 rfl rfl rfl rfl rfl) rfl rfl ?_;refine M0 (q_len rfl rfl rfl) rfl rfl ?_
  refine M0 (q_assignC rfl rfl rfl) rfl rfl ?_;refine L_nil (T_n (A_seq (A_seq (A_region ?_))));refine M0 (q_fldp rfl rfl rfl rfl (by decide)) rfl rfl ?_
  refine M0 (q_ldN rfl rfl rfl rfl rfl rfl) rfl rfl ?_;refine M0 (q_call0 rfl rfl (c1) rfl) rfl rfl ?_;refine M0 (q_not rfl rfl rfl) rfl rfl ?_
  refine M0 (q_moveC rfl rfl rfl) rfl rfl ?_;refine M0 (Qt.grdF rfl rfl rfl .stop (fun hgrd => q_fldp rfl rfl rfl rfl (by decide))) rfl rfl ?_
  refine M0 (Qt.grdF rfl rfl rfl (.hit .stop) (fun hgrd => q_ld1 rfl rfl rfl rfl rfl)) rfl rfl ?_
  refine M0 (Qt.grdF rfl rfl rfl (.hit (.hit .stop)) (fun hgrd => q_call0 rfl rfl (S_in x.Seed 0 65535) rfl)) rfl rfl ?_
  refine M0 (Qt.grdF rfl rfl rfl (.hit (.hit (.hit .stop))) (fun hgrd => q_not rfl rfl rfl)) rfl rfl ?_;refine M0 (q_or rfl rfl rfl rfl) rfl rfl ?_
  refine M0 (q_moveC rfl rfl rfl) rfl rfl ?_;refine M0 (Qt.grdF rfl rfl rfl .stop (fun hgrd => q_fldp rfl rfl rfl rfl (by decide))) rfl rfl ?_
  refine M0 (Qt.grdF rfl rfl rfl (.hit .stop) (fun hgrd => q_ld1 rfl rfl rfl rfl rfl)) rfl rfl ?_
  refine M0 (Qt.grdF rfl rfl rfl (.hit (.hit .stop)) (fun hgrd => q_call0 rfl rfl (S_in x.Delay 0 5) rfl)) rfl rfl ?_
  refine M0 (Qt.grdF rfl rfl rfl (.hit (.hit (.hit .stop))) (fun hgrd => q_not rfl rfl rfl)) rfl rfl ?_;refine M0 (q_or rfl rfl rfl rfl) rfl rfl ?_
  refine M0 (q_moveC rfl rfl rfl) rfl rfl ?_;refine M0 (Qt.grdF rfl rfl rfl .stop (fun hgrd => q_fldp rfl rfl rfl rfl (by decide))) rfl rfl ?_
  refine M0 (Qt.grdF rfl rfl rfl (.hit .stop) (fun hgrd => q_ld1 rfl rfl rfl rfl rfl)) rfl rfl ?_
  refine M0 (Qt.grdF rfl rfl rfl (.hit (.hit .stop)) (fun hgrd => q_call0 rfl rfl (S_in x.Clock 0 1000) rfl)) rfl rfl ?_
  refine M0 (Qt.grdF rfl rfl rfl (.hit (.hit (.hit .stop))) (fun hgrd => q_not rfl rfl rfl)) rfl rfl ?_;refine M0 (q_or rfl rfl rfl rfl) rfl rfl ?_
  refine M0 (q_moveC rfl rfl rfl) rfl rfl ?_;refine M0 (Qt.grdF rfl rfl rfl .stop (fun hgrd => q_fldp rfl rfl rfl rfl (by decide))) rfl rfl ?_
  refine M0 (Qt.grdF rfl rfl rfl (.hit .stop) (fun hgrd => q_ld1 rfl rfl rfl rfl rfl)) rfl rfl ?_
  refine M0 (Qt.grdF rfl rfl rfl (.hit (.hit .stop)) (fun hgrd => q_call0 rfl rfl (S_in x.Bad 0 1000000) rfl)) rfl rfl ?_
  refine M0 (Qt.grdF rfl rfl rfl (.hit (.hit (.hit .stop))) (fun hgrd => q_not rfl rfl rfl)) rfl rfl ?_;refine M0 (q_or rfl rfl rfl rfl) rfl rfl ?_
  refine M0 (q_moveC rfl rfl rfl) rfl rfl ?_;refine M0 (Qt.grdF rfl rfl rfl .stop (fun hgrd => q_moveC rfl rfl rfl)) rfl rfl ?_
  refine M0 (Qt.grdF rfl rfl rfl (.hit .stop) (fun hgrd => q_call0 rfl rfl (S_in (els x.Scripts).length 1 4) rfl)) rfl rfl ?_
  refine M0 (Qt.grdF rfl rfl rfl (.hit (.hit .stop)) (fun hgrd => q_not rfl rfl rfl)) rfl rfl ?_;refine M0 (q_or rfl rfl rfl rfl) rfl rfl ?_;refine M0 (q_moveC rfl rfl rfl) rfl rfl ?_
  refine M0 (Qt.grdF rfl rfl rfl .stop (fun hgrd => q_fldp rfl rfl rfl rfl (by decide))) rfl rfl ?_
  refine M0 (Qt.grdF rfl rfl rfl (.hit .stop) (fun hgrd => q_ld1 rfl rfl rfl rfl rfl)) rfl rfl ?_
  refine M0 (Qt.grdF rfl rfl rfl (.hit (.hit .stop)) (fun hgrd => q_len rfl rfl rfl)) rfl rfl ?_
  refine M0 (Qt.grdF rfl rfl rfl (.hit (.hit (.hit .stop))) (fun hgrd => q_moveC rfl rfl rfl)) rfl rfl ?_
  refine M0 (Qt.grdF rfl rfl rfl (.hit (.hit (.hit (.hit .stop)))) (fun hgrd => q_neq rfl rfl rfl rfl)) rfl rfl ?_;refine M0 (q_or rfl rfl rfl rfl) rfl rfl ?_
  refine M0 (q_moveC rfl rfl rfl) rfl rfl ?_;refine M0 (Qt.grdF rfl rfl rfl .stop (fun hgrd => q_fldp rfl rfl rfl rfl (by decide))) rfl rfl ?_
  refine M0 (Qt.grdF rfl rfl rfl (.hit .stop) (fun hgrd => q_ld1 rfl rfl rfl rfl rfl)) rfl rfl ?_
  refine M0 (Qt.grdF rfl rfl rfl (.hit (.hit .stop)) (fun hgrd => q_len rfl rfl rfl)) rfl rfl ?_
  refine M0 (Qt.grdF rfl rfl rfl (.hit (.hit (.hit .stop))) (fun hgrd => q_gtr rfl rfl rfl rfl)) rfl rfl ?_;refine M0 (q_or rfl rfl rfl rfl) rfl rfl ?_
  refine M0 (q_moveC rfl rfl rfl) rfl rfl ?_;refine M0 (Qt.grdF rfl rfl rfl .stop (fun hgrd => q_fldp rfl rfl rfl rfl (by decide))) rfl rfl ?_
  refine M0 (Qt.grdF rfl rfl rfl (.hit .stop) (fun hgrd => q_ld1 rfl rfl rfl rfl rfl)) rfl rfl ?_
  refine M0 (Qt.grdF rfl rfl rfl (.hit (.hit .stop)) (fun hgrd => q_len rfl rfl rfl)) rfl rfl ?_
  refine M0 (Qt.grdF rfl rfl rfl (.hit (.hit (.hit .stop))) (fun hgrd => q_fldp rfl rfl rfl rfl (by decide))) rfl rfl ?_
  refine M0 (Qt.grdF rfl rfl rfl (.hit (.hit (.hit (.hit .stop)))) (fun hgrd => q_ld1 rfl rfl rfl rfl rfl)) rfl rfl ?_
  refine M0 (Qt.grdF rfl rfl rfl (.hit (.hit (.hit (.hit (.hit .stop))))) (fun hgrd => q_len rfl rfl rfl)) rfl rfl ?_
  refine M0 (Qt.grdF rfl rfl rfl (.hit (.hit (.hit (.hit (.hit (.hit .stop)))))) (fun hgrd => q_neq rfl rfl rfl rfl)) rfl rfl ?_;refine M0 (q_or rfl rfl rfl rfl) rfl rfl ?_
  refine L_nil (T_n ?_)
  refine A_cond rfl (fun h1 => ?_) (fun h1 => ?_)
  · rw [show matchOk x = false from dF fun hm => by obtain ⟨⟨a,b,c,d,e⟩,⟨f1,f2⟩,_,⟨g,_⟩,_,⟨i,j⟩,_⟩ := hm; rw [a,b,c,d,e,show inR ((els x.Scripts).length : Int) 1 4 = true by (rw [inR_iff]; omega),decide_eq_false (by omega),decide_eq_false (by omega),decide_eq_false (by omega)] at h1; exact absurd h1 (by decide)]
    refine A_seq (A_region ?_);refine M0 (q_assignC rfl rfl rfl) rfl rfl ?_;refine L_nil (T_n (A_ret (T_r (F_r ?_))))
    exact E_tmp rfl rfl (W_end [] (by decide) rfl rfl rfl)
  simp only [Bool.or_eq_false_iff,Bool.not_eq_false',decide_eq_false_iff_not,Classical.not_not,inR_iff] at h1
  obtain ⟨⟨⟨⟨⟨⟨⟨⟨a,b⟩,c⟩,d⟩,e⟩,f⟩,g⟩,h8⟩,h9⟩ := h1
  have hH : HeadP x := ⟨a,inR_iff.2 b,inR_iff.2 c,inR_iff.2 d,inR_iff.2 e⟩
  refine AWP.pre (st' := (⟨_,[(1,.o (.c (.ptr 0 0))),(3,I (els x.Scripts).length)],[.box ((Enc.e x).map (V1.rd []))]⟩ : St)) ?_ (W_go [0] (by decide) rfl (rfl) (.cons rfl (.cons rfl (.nil))))
  refine A_skip (T_n (A_seq (A_seq (A_region ?_))));refine M0 (q_assignC rfl rfl rfl) rfl rfl ?_;refine L_nil (T_n (A_block ?_))
  refine A_loop (fun m st => ∃ k : Nat,k + m = x.Scripts.length ∧ (((x.Scripts.take k).all scriptOk = true ∧ ∀ i,i < k → ∀ p,x.Peers[i]? = some p → peerIn x i p = true)) ∧ st = (fun k : Nat => (⟨_,[(1,.o (.c (.ptr 0 0))),(3,I (els x.Scripts).length),(4,I k)],[.box ((Enc.e x).map (V1.rd []))]⟩ : St)) k) (x.Scripts.length) ⟨(fun k : Nat => (⟨_,[(1,.o (.c (.ptr 0 0))),(3,I (els x.Scripts).length),(4,I k)],[.box ((Enc.e x).map (V1.rd []))]⟩ : St)) 0,W_go [0] (by decide) rfl (rfl) (.cons rfl (.cons rfl (.cons rfl (.nil)))),0,by omega,⟨by simp,fun i hi => absurd hi (Nat.not_lt_zero _)⟩,rfl⟩ ?_
  rintro m_A _ ⟨k,hk_A,hp_A,rfl⟩
  obtain ⟨hpa,hpb⟩ := hp_A
  refine A_seq (A_seq (A_region ?_));refine M0 (q_moveC rfl rfl rfl) rfl rfl ?_;refine M0 (q_moveC rfl rfl rfl) rfl rfl ?_;refine M0 (q_lss rfl rfl rfl rfl) rfl rfl ?_
  refine L_nil (T_n ?_)
  refine A_cond rfl (fun h => ?_) (fun h => ?_)
  · have h3 : k < x.Scripts.length := by have := of_decide_eq_true h; omega
    obtain ⟨p,hp⟩ := some_at (xs := x.Peers) (i := k) (by omega)
    have hatP := els_some hp
    have hat := els_at h3
    have gp := gP.2 p (List.mem_of_getElem? hp)
    have c2 := S_ScriptInput x.Scripts[k] 0 0 (gSc.2 _ (List.getElem_mem h3)) ⟨by decide,by decide⟩
    have c3 := S_PeerOk p gp
    have c4 := S_sameLevel p.Base.Level x.Level gp.2.2.2.2.2.1.1
    repeat (first | refine A_seq ?_ | refine A_skip ?_ | refine A_block ?_ | refine T_n ?_)
    refine A_region ?_
    refine M0 (q_fldp rfl rfl rfl rfl (by decide)) rfl rfl ?_
    refine M0 (q_ld1 rfl rfl rfl rfl rfl) rfl rfl ?_
    refine M0 (q_moveC rfl rfl rfl) rfl rfl ?_
    refine M0 (q_at rfl rfl rfl rfl (by omega) (by assumption) rfl) rfl rfl ?_
    refine M0 (q_lrN rfl rfl rfl rfl rfl) rfl rfl ?_
    refine AL.weak (st' := (⟨_,[(1,.o (.c (.ptr 0 0))),(3,I (els x.Scripts).length),(4,I k),(75,.o (.ag ((Enc.e p).map (V1.rd []))))],[.box ((Enc.e x).map (V1.rd []))]⟩ : St)) (W_go [0] (by decide) rfl (rfl) (.cons rfl (.cons rfl (.cons rfl (.cons (by kernel_rfl) (.nil)))))) ?_
    refine M1 (q_alloc rfl rfl rfl) rfl rfl ?_
    refine M_stN rfl rfl rfl rfl rfl rfl rfl rfl rfl ?_
    refine AL.weak (st' := (⟨_,[(1,.o (.c (.ptr 0 0))),(3,I (els x.Scripts).length),(4,I k),(5,.o (.c (.ptr 1 0)))],[.box ((Enc.e x).map (V1.rd [])),.box ((Enc.e p).map (V1.rd []))]⟩ : St)) (W_go [0,1] (by decide) rfl ((by kernel_rfl)) (.cons rfl (.cons rfl (.cons rfl (.cons rfl (.nil)))))) ?_
    refine L_nil (T_n (A_seq (A_region ?_)));refine M0 (q_fldp rfl rfl rfl rfl (by decide)) rfl rfl ?_;refine M0 (q_ld1 rfl rfl rfl rfl rfl) rfl rfl ?_
    refine M0 (q_moveC rfl rfl rfl) rfl rfl ?_;refine M0 (q_at rfl rfl rfl rfl (by omega) (by assumption) rfl) rfl rfl ?_;refine M0 (q_lr1 rfl rfl rfl rfl) rfl rfl ?_
    refine M0 (q_call0 rfl rfl (c2) rfl) rfl rfl ?_;refine M0 (q_lss rfl rfl rfl rfl) rfl rfl ?_;refine M0 (q_moveC rfl rfl rfl) rfl rfl ?_
    refine M0 (Qt.grdF rfl rfl rfl .stop (fun hgrd => q_ldN rfl rfl rfl rfl rfl rfl)) rfl rfl ?_
    refine M0 (Qt.grdF rfl rfl rfl (.hit .stop) (fun hgrd => q_call0 rfl rfl (c3) rfl)) rfl rfl ?_
    refine M0 (Qt.grdF rfl rfl rfl (.hit (.hit .stop)) (fun hgrd => q_not rfl rfl rfl)) rfl rfl ?_;refine M0 (q_or rfl rfl rfl rfl) rfl rfl ?_;refine M0 (q_moveC rfl rfl rfl) rfl rfl ?_
    refine M0 (Qt.grdF rfl rfl rfl .stop (fun hgrd => q_fldp rfl rfl rfl rfl (by decide))) rfl rfl ?_
    refine M0 (Qt.grdF rfl rfl rfl (.hit .stop) (fun hgrd => q_ld1 rfl rfl rfl rfl rfl)) rfl rfl ?_
    refine M0 (Qt.grdF rfl rfl rfl (.hit (.hit .stop)) (fun hgrd => q_moveC rfl rfl rfl)) rfl rfl ?_
    refine M0 (Qt.grdF rfl rfl rfl (.hit (.hit (.hit .stop))) (fun hgrd => q_neq rfl rfl rfl rfl)) rfl rfl ?_;refine M0 (q_or rfl rfl rfl rfl) rfl rfl ?_
    refine M0 (q_moveC rfl rfl rfl) rfl rfl ?_;refine M0 (Qt.grdF rfl rfl rfl .stop (fun hgrd => q_fldp rfl rfl rfl rfl (by decide))) rfl rfl ?_
    refine M0 (Qt.grdF rfl rfl rfl (.hit .stop) (fun hgrd => q_fldp rfl rfl rfl rfl (by decide))) rfl rfl ?_
    refine M0 (Qt.grdF rfl rfl rfl (.hit (.hit .stop)) (fun hgrd => q_ldN rfl rfl rfl rfl rfl rfl)) rfl rfl ?_
    refine M0 (Qt.grdF rfl rfl rfl (.hit (.hit (.hit .stop))) (fun hgrd => q_fldp rfl rfl rfl rfl (by decide))) rfl rfl ?_
    refine M0 (Qt.grdF rfl rfl rfl (.hit (.hit (.hit (.hit .stop)))) (fun hgrd => q_ldN rfl rfl rfl rfl rfl rfl)) rfl rfl ?_
    refine M0 (Qt.grdF rfl rfl rfl (.hit (.hit (.hit (.hit (.hit .stop))))) (fun hgrd => q_call0 rfl rfl (c4) rfl)) rfl rfl ?_
    refine M0 (Qt.grdF rfl rfl rfl (.hit (.hit (.hit (.hit (.hit (.hit .stop)))))) (fun hgrd => q_not rfl rfl rfl)) rfl rfl ?_;refine M0 (q_or rfl rfl rfl rfl) rfl rfl ?_
    refine M0 (q_moveC rfl rfl rfl) rfl rfl ?_;refine M0 (Qt.grdF rfl rfl rfl .stop (fun hgrd => q_fldp rfl rfl rfl rfl (by decide))) rfl rfl ?_
    refine M0 (Qt.grdF rfl rfl rfl (.hit .stop) (fun hgrd => q_ld1 rfl rfl rfl rfl rfl)) rfl rfl ?_
    refine M0 (Qt.grdF rfl rfl rfl (.hit (.hit .stop)) (fun hgrd => q_fldp rfl rfl rfl rfl (by decide))) rfl rfl ?_
    refine M0 (Qt.grdF rfl rfl rfl (.hit (.hit (.hit .stop))) (fun hgrd => q_ld1 rfl rfl rfl rfl rfl)) rfl rfl ?_
    refine M0 (Qt.grdF rfl rfl rfl (.hit (.hit (.hit (.hit .stop)))) (fun hgrd => q_neq rfl rfl rfl rfl)) rfl rfl ?_;refine M0 (q_or rfl rfl rfl rfl) rfl rfl ?_
    refine M0 (q_moveC rfl rfl rfl) rfl rfl ?_;refine M0 (Qt.grdF rfl rfl rfl .stop (fun hgrd => q_fldp rfl rfl rfl rfl (by decide))) rfl rfl ?_
    refine M0 (Qt.grdF rfl rfl rfl (.hit .stop) (fun hgrd => q_ld1 rfl rfl rfl rfl rfl)) rfl rfl ?_
    refine M0 (Qt.grdF rfl rfl rfl (.hit (.hit .stop)) (fun hgrd => q_fldp rfl rfl rfl rfl (by decide))) rfl rfl ?_
    refine M0 (Qt.grdF rfl rfl rfl (.hit (.hit (.hit .stop))) (fun hgrd => q_ld1 rfl rfl rfl rfl rfl)) rfl rfl ?_
    refine M0 (Qt.grdF rfl rfl rfl (.hit (.hit (.hit (.hit .stop)))) (fun hgrd => q_neq rfl rfl rfl rfl)) rfl rfl ?_;refine M0 (q_or rfl rfl rfl rfl) rfl rfl ?_
    refine M0 (q_moveC rfl rfl rfl) rfl rfl ?_;refine M0 (Qt.grdF rfl rfl rfl .stop (fun hgrd => q_fldp rfl rfl rfl rfl (by decide))) rfl rfl ?_
    refine M0 (Qt.grdF rfl rfl rfl (.hit .stop) (fun hgrd => q_ld1 rfl rfl rfl rfl rfl)) rfl rfl ?_
    refine M0 (Qt.grdF rfl rfl rfl (.hit (.hit .stop)) (fun hgrd => q_len rfl rfl rfl)) rfl rfl ?_
    refine M0 (Qt.grdF rfl rfl rfl (.hit (.hit (.hit .stop))) (fun hgrd => q_moveC rfl rfl rfl)) rfl rfl ?_
    refine M0 (Qt.grdF rfl rfl rfl (.hit (.hit (.hit (.hit .stop)))) (fun hgrd => q_neq rfl rfl rfl rfl)) rfl rfl ?_;refine M0 (q_or rfl rfl rfl rfl) rfl rfl ?_;refine L_nil ?_
    refine T_n ?_
    refine A_cond rfl (fun h4 => ?_) (fun h4 => ?_)
    · rw [show matchOk x = false from dF fun hm => pinS_no hl h4 ⟨by have := List.all_eq_true.1 hm.2.2.1 _ (List.getElem_mem h3); exact this,hm.2.2.2.1.2 k p hp⟩]
      refine A_seq (A_region ?_);refine M0 (q_assignC rfl rfl rfl) rfl rfl ?_;refine L_nil (T_n (A_ret (B_r (T_r (T_r (B_r ?_))))))
      refine T_r (F_r ?_)
      exact E_tmp rfl rfl (W_end [] (by decide) rfl rfl rfl)
    have h4 := pinS_yes hl h4
    refine AWP.pre (st' := (⟨_,[(1,.o (.c (.ptr 0 0))),(3,I (els x.Scripts).length),(4,I k)],[.box ((Enc.e x).map (V1.rd []))]⟩ : St)) ?_ (W_go [0] (by decide) rfl (rfl) (.cons rfl (.cons rfl (.cons rfl (.nil)))))
    refine A_skip (B_n (T_n (A_region ?_)));refine M0 (q_moveC rfl rfl rfl) rfl rfl ?_;refine M0 (q_add rfl rfl rfl rfl (by omega)) rfl rfl ?_
    refine M0 (q_assignC rfl rfl rfl) rfl rfl ?_;refine L_nil (T_n ?_)
    exact ⟨x.Scripts.length - (k + 1),by omega,(fun k : Nat => (⟨_,[(1,.o (.c (.ptr 0 0))),(3,I (els x.Scripts).length),(4,I k)],[.box ((Enc.e x).map (V1.rd []))]⟩ : St)) (k + 1),W_go [0] (by decide) rfl (rfl) (.cons rfl (.cons rfl (.cons rfl (.nil)))),k + 1,by omega,⟨all_next hpa h3 h4.1,upto_next hpb fun p' hp' => by rw [hp] at hp'; cases hp'; exact h4.2⟩,rfl⟩
  have h3 : ¬ k < x.Scripts.length := by have := of_decide_eq_false h; omega
  have hA := all_end hpa (by omega)
  have hP : PeersP x := ⟨by omega,fun i p hi => hpb i (by have := (List.getElem?_eq_some_iff.1 hi).1; omega) p hi⟩
  refine AWP.pre (st' := (⟨_,[(1,.o (.c (.ptr 0 0))),(3,I (els x.Scripts).length)],[.box ((Enc.e x).map (V1.rd []))]⟩ : St)) ?_ (W_go [0] (by decide) rfl (rfl) (.cons rfl (.cons rfl (.nil))))
  refine A_exit (T_x (T_x (B_xs (T_n (A_seq (A_seq (A_region ?_)))))));refine M0 (q_assignC rfl rfl rfl) rfl rfl ?_;refine L_nil ?_
  refine T_n (A_block ?_)
  refine A_loop (fun m st => ∃ q : Nat,q + m = x.Watchers.length ∧ ((∀ i,i < q → ∀ s l,x.Watchers[i]? = some s → x.Lines[i]? = some l → watcherIn x s l = true)) ∧ st = (fun q : Nat => (⟨_,[(1,.o (.c (.ptr 0 0))),(3,I (els x.Scripts).length),(6,I q)],[.box ((Enc.e x).map (V1.rd []))]⟩ : St)) q) (x.Watchers.length) ⟨(fun q : Nat => (⟨_,[(1,.o (.c (.ptr 0 0))),(3,I (els x.Scripts).length),(6,I q)],[.box ((Enc.e x).map (V1.rd []))]⟩ : St)) 0,W_go [0] (by decide) rfl (rfl) (.cons rfl (.cons rfl (.cons rfl (.nil)))),0,by omega,fun i hi => absurd hi (Nat.not_lt_zero _),rfl⟩ ?_
  rintro m_D _ ⟨q,hk_D,hp_D,rfl⟩
  refine A_seq (A_seq (A_region ?_));refine M0 (q_moveC rfl rfl rfl) rfl rfl ?_;refine M0 (q_fldp rfl rfl rfl rfl (by decide)) rfl rfl ?_
  refine M0 (q_ld1 rfl rfl rfl rfl rfl) rfl rfl ?_;refine M0 (q_len rfl rfl rfl) rfl rfl ?_;refine M0 (q_lss rfl rfl rfl rfl) rfl rfl ?_;refine L_nil (T_n ?_)
  refine A_cond rfl (fun h => ?_) (fun h => ?_)
  · have h5 : q < x.Watchers.length := by have := of_decide_eq_true h; omega
    obtain ⟨s,hs⟩ := some_at (xs := x.Watchers) (i := q) (by omega)
    obtain ⟨l,hl2⟩ := some_at (xs := x.Lines) (i := q) (by omega)
    have hat := els_some hs
    have hatL := els_some hl2
    have gs := gWa.2 s (List.mem_of_getElem? hs)
    have c2 := S_WireOk l (gLi.2 l (List.mem_of_getElem? hl2))
    have c3 := S_WorldOk s.World gs.1
    have c4 := S_sameLevel s.World.Level x.Level gs.1.1
    refine A_skip (T_n (A_seq (A_block (A_seq (A_region ?_)))));refine M0 (q_fldp rfl rfl rfl rfl (by decide)) rfl rfl ?_
    refine M0 (q_ld1 rfl rfl rfl rfl rfl) rfl rfl ?_;refine M0 (q_moveC rfl rfl rfl) rfl rfl ?_;refine M0 (q_at rfl rfl rfl rfl (by omega) (by assumption) rfl) rfl rfl ?_
    refine M0 (q_fldr rfl rfl rfl rfl (by decide)) rfl rfl ?_;refine M0 (q_lrN rfl rfl rfl rfl rfl) rfl rfl ?_;refine M1 (q_alloc rfl rfl rfl) rfl rfl ?_
    refine M_stN rfl rfl rfl rfl rfl rfl rfl rfl rfl ?_;refine L_nil (T_n (A_seq (A_region ?_)));refine M0 (q_fldp rfl rfl rfl rfl (by decide)) rfl rfl ?_
    refine M0 (q_ld1 rfl rfl rfl rfl rfl) rfl rfl ?_;refine M0 (q_moveC rfl rfl rfl) rfl rfl ?_;refine M0 (q_at rfl rfl rfl rfl (by omega) (by assumption) rfl) rfl rfl ?_
    refine M0 (q_lrN rfl rfl rfl rfl rfl) rfl rfl ?_;refine M0 (q_call0 rfl rfl (c2) rfl) rfl rfl ?_;refine M0 (q_not rfl rfl rfl) rfl rfl ?_;refine M0 (q_moveC rfl rfl rfl) rfl rfl ?_
    refine M0 (Qt.grdF rfl rfl rfl .stop (fun hgrd => q_ldN rfl rfl rfl rfl rfl rfl)) rfl rfl ?_
    refine M0 (Qt.grdF rfl rfl rfl (.hit .stop) (fun hgrd => q_call0 rfl rfl (c3) rfl)) rfl rfl ?_
    refine M0 (Qt.grdF rfl rfl rfl (.hit (.hit .stop)) (fun hgrd => q_not rfl rfl rfl)) rfl rfl ?_;refine M0 (q_or rfl rfl rfl rfl) rfl rfl ?_;refine M0 (q_moveC rfl rfl rfl) rfl rfl ?_
    refine M0 (Qt.grdF rfl rfl rfl .stop (fun hgrd => q_fldp rfl rfl rfl rfl (by decide))) rfl rfl ?_
    refine M0 (Qt.grdF rfl rfl rfl (.hit .stop) (fun hgrd => q_ldN rfl rfl rfl rfl rfl rfl)) rfl rfl ?_
    refine M0 (Qt.grdF rfl rfl rfl (.hit (.hit .stop)) (fun hgrd => q_fldp rfl rfl rfl rfl (by decide))) rfl rfl ?_
    refine M0 (Qt.grdF rfl rfl rfl (.hit (.hit (.hit .stop))) (fun hgrd => q_ldN rfl rfl rfl rfl rfl rfl)) rfl rfl ?_
    refine M0 (Qt.grdF rfl rfl rfl (.hit (.hit (.hit (.hit .stop)))) (fun hgrd => q_call0 rfl rfl (c4) rfl)) rfl rfl ?_
    refine M0 (Qt.grdF rfl rfl rfl (.hit (.hit (.hit (.hit (.hit .stop))))) (fun hgrd => q_not rfl rfl rfl)) rfl rfl ?_;refine M0 (q_or rfl rfl rfl rfl) rfl rfl ?_
    refine M0 (q_moveC rfl rfl rfl) rfl rfl ?_;refine M0 (Qt.grdF rfl rfl rfl .stop (fun hgrd => q_fldp rfl rfl rfl rfl (by decide))) rfl rfl ?_
    refine M0 (Qt.grdF rfl rfl rfl (.hit .stop) (fun hgrd => q_ld1 rfl rfl rfl rfl rfl)) rfl rfl ?_
    refine M0 (Qt.grdF rfl rfl rfl (.hit (.hit .stop)) (fun hgrd => q_len rfl rfl rfl)) rfl rfl ?_
    refine M0 (Qt.grdF rfl rfl rfl (.hit (.hit (.hit .stop))) (fun hgrd => q_moveC rfl rfl rfl)) rfl rfl ?_
    refine M0 (Qt.grdF rfl rfl rfl (.hit (.hit (.hit (.hit .stop)))) (fun hgrd => q_neq rfl rfl rfl rfl)) rfl rfl ?_;refine M0 (q_or rfl rfl rfl rfl) rfl rfl ?_;refine L_nil ?_
    refine T_n ?_
    refine A_cond rfl (fun h4 => ?_) (fun h4 => ?_)
    · rw [show matchOk x = false from dF fun hm => winS_no hl h4 (hm.2.2.2.2.2.2 q s l hs hl2)]
      refine A_seq (A_region ?_);refine M0 (q_assignC rfl rfl rfl) rfl rfl ?_;refine L_nil (T_n (A_ret (B_r (T_r (T_r (B_r ?_))))))
      refine T_r (F_r ?_)
      exact E_tmp rfl rfl (W_end [] (by decide) rfl rfl rfl)
    refine AWP.pre (st' := (⟨_,[(1,.o (.c (.ptr 0 0))),(3,I (els x.Scripts).length),(6,I q)],[.box ((Enc.e x).map (V1.rd []))]⟩ : St)) ?_ (W_go [0] (by decide) rfl (rfl) (.cons rfl (.cons rfl (.cons rfl (.nil)))))
    refine A_skip (B_n (T_n (A_region ?_)));refine M0 (q_moveC rfl rfl rfl) rfl rfl ?_;refine M0 (q_add rfl rfl rfl rfl (by omega)) rfl rfl ?_
    refine M0 (q_assignC rfl rfl rfl) rfl rfl ?_;refine L_nil (T_n ?_)
    exact ⟨x.Watchers.length - (q + 1),by omega,(fun q : Nat => (⟨_,[(1,.o (.c (.ptr 0 0))),(3,I (els x.Scripts).length),(6,I q)],[.box ((Enc.e x).map (V1.rd []))]⟩ : St)) (q + 1),W_go [0] (by decide) rfl (rfl) (.cons rfl (.cons rfl (.cons rfl (.nil)))),q + 1,by omega,upto_next hp_D fun s' l' hs' hl' => by rw [hs] at hs'; rw [hl2] at hl'; cases hs'; cases hl'; exact winS_yes hl h4,rfl⟩
  have h5 : ¬ q < x.Watchers.length := by have := of_decide_eq_false h; omega
  have hW : WatchersP x := ⟨⟨by omega,by omega⟩,fun i s l hi hl => hp_D i (by have := (List.getElem?_eq_some_iff.1 hi).1; omega) s l hi hl⟩
  have cl := S_square x hg0 hP
  rw [show x.Peers.length = (els x.Scripts).length by omega,match_S hH (by omega) hA hP hW] at cl
  refine AWP.pre (st' := (⟨_,[(1,.o (.c (.ptr 0 0))),(3,I (els x.Scripts).length)],[.box ((Enc.e x).map (V1.rd []))]⟩ : St)) ?_ (W_go [0] (by decide) rfl (rfl) (.cons rfl (.cons rfl (.nil))))
  refine A_exit (T_x (T_x (B_xs (T_n (A_seq (A_region ?_))))));refine M0 (q_ldN rfl rfl rfl rfl rfl rfl) rfl rfl ?_
  refine M0 (q_moveC rfl rfl rfl) rfl rfl ?_;refine M0 (q_call0 rfl rfl (cl) rfl) rfl rfl ?_;refine M0 (q_assignC rfl rfl rfl) rfl rfl ?_;refine L_nil (T_n (A_ret ?_))
  refine F_r ?_
  exact E_tmp rfl rfl (W_end [] (by decide) rfl rfl rfl)
end Go.Proofs.YtbpebmolbdplmaaGreat
end

section
set_option linter.unusedVariables false
set_option linter.unusedSimpArgs false
set_option maxRecDepth 8000
namespace Go.Proofs.YtbpebmolbdplmaaGreat
open Go.RowKit

theorem wts_pace : ∀ xs : List TPace,wts xs = 0
  | [] => rfl
  | x :: xs => by simp [wts,wts_pace xs,Enc.wt]
set_option maxHeartbeats 8000000 in
theorem sz_PaceS (xs : List TPace) (left : Int) (hg : Enc.gd xs) (h0 : 0 ≤ left) (h1 : left ≤ 1048576) : Con Tryz.prog 53 [] [al xs,ai left] [] (I (szr (Enc.wt xs) left)) := by
  have hlen := els_len xs
  have hx := hg.1
  have hw : Enc.wt xs = xs.length := by simp [Enc.wt,wts_pace]
  refine Con.of Tryz.func53 rfl Tryz.ntmps53 rfl (fun E => ?_)
  refine A_seq (A_region ?_);refine M0 (q_assignC rfl rfl rfl) rfl rfl ?_;refine L_nil (T_n (A_seq (A_region ?_)));refine M0 (q_moveC rfl rfl rfl) rfl rfl ?_
  refine M0 (q_moveC rfl rfl rfl) rfl rfl ?_;refine M0 (q_len rfl rfl rfl) rfl rfl ?_;refine M0 (q_sub rfl rfl rfl rfl (by omega)) rfl rfl ?_
  refine M0 (q_assignC rfl rfl rfl) rfl rfl ?_;refine L_nil (T_n (A_seq (A_seq (A_region ?_))));refine M0 (q_moveC rfl rfl rfl) rfl rfl ?_
  refine M0 (q_lss rfl rfl rfl rfl) rfl rfl ?_;refine L_nil (T_n ?_)
  refine A_cond rfl (fun h => ?_) (fun h => ?_)
  · refine A_seq (A_region ?_);refine M0 (q_assignC rfl rfl rfl) rfl rfl ?_;refine L_nil (T_n (A_ret (T_r (F_r ?_))))
    have h2 := of_decide_eq_true (p := _) (by simpa using h)
    exact E_tmp rfl rfl (W_end [] (by decide) rfl rfl (I_eq (by rw [szr_neg (by omega)])))
  · refine A_skip (T_n (A_seq (A_region ?_)));refine M0 (q_moveC rfl rfl rfl) rfl rfl ?_;refine M0 (q_assignC rfl rfl rfl) rfl rfl ?_;refine L_nil (T_n ?_)
    refine A_ret (F_r ?_)
    have h2 := of_decide_eq_false h
    exact E_tmp rfl rfl (W_end [] (by decide) rfl rfl (I_eq (by rw [szr_pos (by omega)]; omega)))
set_option maxHeartbeats 1000000 in
theorem sz_FlightS (xs : List TFlight) (left : Int) (hg : Enc.gd xs) (h0 : 0 ≤ left) (h1 : left ≤ 1048576) : Con Tryz.prog 87 [] [al xs,ai left] [] (I (szr (Enc.wt xs) left)) := by
  have hlen := els_len xs
  have hx := hg.1
  have hw : Enc.wt xs = xs.length + wts xs := rfl
  refine Con.of Tryz.func87 rfl Tryz.ntmps87 rfl (fun E => ?_)
  refine A_seq (A_region ?_);refine M0 (q_assignC rfl rfl rfl) rfl rfl ?_;refine L_nil (T_n (A_seq (A_region ?_)));refine M0 (q_moveC rfl rfl rfl) rfl rfl ?_
  refine M0 (q_moveC rfl rfl rfl) rfl rfl ?_;refine M0 (q_len rfl rfl rfl) rfl rfl ?_;refine M0 (q_sub rfl rfl rfl rfl (by omega)) rfl rfl ?_
  refine M0 (q_assignC rfl rfl rfl) rfl rfl ?_;refine L_nil (T_n (A_seq (A_seq (A_region ?_))));refine M0 (q_moveC rfl rfl rfl) rfl rfl ?_
  refine M0 (q_lss rfl rfl rfl rfl) rfl rfl ?_;refine L_nil (T_n ?_)
  refine A_cond rfl (fun h => ?_) (fun h => ?_)
  · refine A_seq (A_region ?_);refine M0 (q_assignC rfl rfl rfl) rfl rfl ?_;refine L_nil (T_n (A_ret (T_r (F_r ?_))))
    have h2 := of_decide_eq_true h
    exact E_tmp rfl rfl (W_end [] (by decide) rfl rfl (I_eq (by rw [szr_neg (by omega)])))
  have h2 : ¬ (left - ((els xs).length : Int) < 0) := of_decide_eq_false h
  refine A_skip (T_n (A_seq (A_seq (A_region ?_))));refine M0 (q_assignC rfl rfl rfl) rfl rfl ?_;refine L_nil (T_n (A_block ?_))
  refine A_loop (fun m st => ∃ k : Nat,k + m = xs.length ∧ (((xs.length : Int) + wts (xs.take k) ≤ left)) ∧ st = (fun k : Nat => (⟨_,[(0,L xs),(1,I (left - (xs.length + wts (xs.take k)))),(5,I k)],[]⟩ : St)) k) (xs.length) ⟨(fun k : Nat => (⟨_,[(0,L xs),(1,I (left - (xs.length + wts (xs.take k)))),(5,I k)],[]⟩ : St)) 0,W_go [] (by decide) rfl (rfl) (.cons rfl (.cons (I_eq (by simp [els,wts])) (.cons rfl (.nil)))),0,by omega,by simp [wts]; omega,rfl⟩ ?_
  rintro m_A _ ⟨k,hk_A,hp_A,rfl⟩
  refine A_seq (A_seq (A_region ?_));refine M0 (q_moveC rfl rfl rfl) rfl rfl ?_;refine M0 (q_moveC rfl rfl rfl) rfl rfl ?_;refine M0 (q_len rfl rfl rfl) rfl rfl ?_
  refine M0 (q_lss rfl rfl rfl rfl) rfl rfl ?_;refine L_nil (T_n ?_)
  refine A_cond rfl (fun h => ?_) (fun h => ?_)
  · have h3 : k < xs.length := by have := of_decide_eq_true h; omega
    have hat := els_at h3
    have hstep := wts_take xs k h3
    have hle := wts_take_le xs (k + 1)
    have hc := sz_Flight xs[k] (left - ((xs.length : Int) + wts (xs.take k))) (hg.2 _ (List.getElem_mem h3)) (by omega) (by omega)
    by_cases h4 : left - ((xs.length : Int) + wts (xs.take k)) < Enc.wt xs[k]
    · rw [szr_neg h4] at hc
      have hb : decide ((-1 : Int) < 0) = true := rfl
      refine A_skip (T_n (A_seq (A_block (A_seq (A_region ?_)))));refine M0 (q_moveC rfl rfl rfl) rfl rfl ?_;refine M0 (q_moveC rfl rfl rfl) rfl rfl ?_
      refine M0 (q_at rfl rfl rfl rfl (by omega) (by assumption) rfl) rfl rfl ?_;refine M0 (q_lrN rfl rfl rfl rfl rfl) rfl rfl ?_;refine M0 (q_moveC rfl rfl rfl) rfl rfl ?_
      refine M0 (q_call0 rfl rfl (hc) rfl) rfl rfl ?_;refine M0 (q_assignC rfl rfl rfl) rfl rfl ?_;refine L_nil (T_n (A_seq (A_region ?_)))
      refine M0 (q_moveC rfl rfl rfl) rfl rfl ?_;refine M0 (q_lssK rfl rfl rfl rfl (by assumption)) rfl rfl ?_;refine L_nil (T_n ?_);refine A_ifT rfl ?_;refine A_seq ?_
      refine A_region ?_;refine M0 (q_assignC rfl rfl rfl) rfl rfl ?_;refine L_nil (T_n (A_ret (B_r (T_r (T_r (B_r (T_r ?_)))))))
      refine F_r ?_
      exact E_tmp rfl rfl (W_end [] (by decide) rfl rfl (I_eq (by rw [szr_neg (by omega)])))
    · rw [szr_pos (by omega)] at hc
      have hb : decide (left - ((xs.length : Int) + wts (xs.take k)) - Enc.wt xs[k] < 0) = false := decide_eq_false (by omega)
      refine A_skip (T_n (A_seq (A_block (A_seq (A_region ?_)))));refine M0 (q_moveC rfl rfl rfl) rfl rfl ?_;refine M0 (q_moveC rfl rfl rfl) rfl rfl ?_
      refine M0 (q_at rfl rfl rfl rfl (by omega) (by assumption) rfl) rfl rfl ?_;refine M0 (q_lrN rfl rfl rfl rfl rfl) rfl rfl ?_;refine M0 (q_moveC rfl rfl rfl) rfl rfl ?_
      refine M0 (q_call0 rfl rfl (hc) rfl) rfl rfl ?_;refine M0 (q_assignC rfl rfl rfl) rfl rfl ?_;refine L_nil (T_n (A_seq (A_region ?_)))
      refine M0 (q_moveC rfl rfl rfl) rfl rfl ?_;refine M0 (q_lssK rfl rfl rfl rfl (by assumption)) rfl rfl ?_;refine L_nil (T_n ?_);refine A_ifF rfl ?_;refine A_skip (B_n ?_)
      refine T_n (A_region ?_);refine M0 (q_moveC rfl rfl rfl) rfl rfl ?_;refine M0 (q_add rfl rfl rfl rfl (by omega)) rfl rfl ?_;refine M0 (q_assignC rfl rfl rfl) rfl rfl ?_
      refine L_nil (T_n ?_)
      exact ⟨xs.length - (k + 1),by omega,(fun k : Nat => (⟨_,[(0,L xs),(1,I (left - (xs.length + wts (xs.take k)))),(5,I k)],[]⟩ : St)) (k + 1),W_go [] (by decide) rfl (rfl) (.cons rfl (.cons (I_eq (by rw [hstep]; omega)) (.cons rfl (.nil)))),k + 1,by omega,by omega,rfl⟩
  · have h3 : ¬ ((k : Int) < (els xs).length) := of_decide_eq_false h
    have hk : wts (xs.take k) = wts xs := by rw [List.take_of_length_le (by omega)]
    refine A_exit (T_x (T_x (B_xs (T_n (A_seq (A_region ?_))))));refine M0 (q_moveC rfl rfl rfl) rfl rfl ?_
    refine M0 (q_assignC rfl rfl rfl) rfl rfl ?_;refine L_nil (T_n (A_ret (F_r ?_)))
    exact E_tmp rfl rfl (W_end [] (by decide) rfl rfl (I_eq (by rw [szr_pos (by omega)]; omega)))
def zFlight : List T := [.v (.int .i64 0),.v (.string ⟨#[]⟩)]
set_option maxHeartbeats 1000000 in
theorem to_FlightS (xs : List TFlight) (hg : Enc.wt xs ≤ 1048576) : Con Tryz.prog 96 [] [al xs] [.row 2 (els xs)] (.o (.c (.ref 0))) := by
  have hlen := els_len xs
  have hw : Enc.wt xs = xs.length + wts xs := rfl
  refine Con.of Tryz.func96 rfl Tryz.ntmps96 rfl (fun E => ?_)
  refine A_seq (A_region ?_);refine M0 (q_assignC rfl rfl rfl) rfl rfl ?_;refine L_nil (T_n (A_seq (A_region ?_)));refine M0 (q_moveC rfl rfl rfl) rfl rfl ?_
  refine M0 (q_len rfl rfl rfl) rfl rfl ?_;refine M1 (q_make 0 rfl rfl rfl rfl (by omega) (by omega) (by omega) rfl (by decide)) rfl rfl ?_;refine M0 (q_assignC rfl rfl rfl) rfl rfl ?_
  refine L_nil (T_n (A_seq (A_seq (A_region ?_))));refine M0 (q_assignC rfl rfl rfl) rfl rfl ?_;refine L_nil (T_n (A_block ?_))
  refine A_loop (fun m st => ∃ k : Nat,k + m = xs.length ∧ (True) ∧ st = (fun k : Nat => (⟨_,[(0,L xs),(3,.o (.c (.ref 0))),(4,I k)],[.row 2 (part xs zFlight k)]⟩ : St)) k) (xs.length) ⟨(fun k : Nat => (⟨_,[(0,L xs),(3,.o (.c (.ref 0))),(4,I k)],[.row 2 (part xs zFlight k)]⟩ : St)) 0,W_go [0] (by decide) rfl (row_eq (part_zero xs _)) (.cons rfl (.cons rfl (.cons rfl (.nil)))),0,by omega,trivial,rfl⟩ ?_
  rintro m_A _ ⟨k,hk_A,hp_A,rfl⟩
  refine A_seq (A_seq (A_region ?_));refine M0 (q_moveC rfl rfl rfl) rfl rfl ?_;refine M0 (q_moveC rfl rfl rfl) rfl rfl ?_;refine M0 (q_len rfl rfl rfl) rfl rfl ?_
  refine M0 (q_lss rfl rfl rfl rfl) rfl rfl ?_;refine L_nil (T_n ?_)
  refine A_cond rfl (fun h => ?_) (fun h => ?_)
  · have h3 : k < xs.length := by have := of_decide_eq_true h; omega
    have hat := els_at h3
    have hz := part_at xs zFlight h3
    have hpl : (k : Int) < (part xs zFlight k).length := by rw [part_len xs _ (by omega)]; omega
    have hwt : Enc.wt xs[k] ≤ wts xs := wts_le xs _ (List.getElem_mem h3)
    have hc := to_Flight xs[k] (by omega)
    refine A_skip (T_n (A_seq (A_block (A_region ?_))));refine M0 (q_moveC rfl rfl rfl) rfl rfl ?_;refine M0 (q_moveC rfl rfl rfl) rfl rfl ?_
    refine M0 (q_moveC rfl rfl rfl) rfl rfl ?_;refine M0 (q_moveC rfl rfl rfl) rfl rfl ?_;refine M0 (q_at rfl rfl rfl rfl (by omega) (by assumption) rfl) rfl rfl ?_
    refine M0 (q_lrN rfl rfl rfl rfl rfl) rfl rfl ?_;refine M1 (q_call rfl rfl (hc) rfl rfl rfl) rfl rfl ?_;refine M0 (q_ar rfl rfl rfl rfl rfl (by omega) (by assumption)) rfl rfl ?_
    refine M_steN rfl rfl rfl rfl rfl rfl rfl rfl rfl rfl (by assumption) rfl rfl ?_;refine L_nil (B_n (T_n (A_region ?_)))
    refine M0 (q_moveC rfl rfl rfl) rfl rfl ?_;refine M0 (q_add rfl rfl rfl rfl (by omega)) rfl rfl ?_;refine M0 (q_assignC rfl rfl rfl) rfl rfl ?_;refine L_nil (T_n ?_)
    exact ⟨xs.length - (k + 1),by omega,(fun k : Nat => (⟨_,[(0,L xs),(3,.o (.c (.ref 0))),(4,I k)],[.row 2 (part xs zFlight k)]⟩ : St)) (k + 1),W_go [0] (by decide) rfl (row_eq (part_set xs zFlight h3 _ (by rfl) (by rfl)).symm) (.cons rfl (.cons rfl (.cons rfl (.nil)))),k + 1,by omega,trivial,rfl⟩
  · have h3 : ¬ ((k : Int) < (els xs).length) := of_decide_eq_false h
    refine A_exit (T_x (T_x (B_xs (T_n (A_seq (A_region ?_))))));refine M0 (q_moveC rfl rfl rfl) rfl rfl ?_
    refine M0 (q_assignC rfl rfl rfl) rfl rfl ?_;refine L_nil (T_n (A_ret (F_r ?_)))
    exact E_tmp rfl rfl (W_end [0] (by decide) rfl (row_eq (part_all xs _ (by omega)).symm) rfl)
set_option maxHeartbeats 1000000 in
theorem eq_FlightS (xs ys : List TFlight) (hn : Enc.gd xs) : Con Tryz.prog 108 [] [al xs,al ys] [] (B (decide (xs = ys))) := by
  have hn1 := hn.1
  have hlx := els_len xs
  have hly := els_len ys
  by_cases hl : xs.length = ys.length
  · have hb : decide (((els xs).length : Int) ≠ ((els ys).length : Int)) = false := by rw [hlx,hly,hl]; simp
    refine Con.of Tryz.func108 rfl Tryz.ntmps108 rfl (fun E => ?_)
    refine A_seq (A_region ?_);refine M0 (q_assignC rfl rfl rfl) rfl rfl ?_;refine L_nil (T_n (A_seq (A_seq (A_region ?_))))
    refine M0 (q_moveC rfl rfl rfl) rfl rfl ?_;refine M0 (q_len rfl rfl rfl) rfl rfl ?_;refine M0 (q_moveC rfl rfl rfl) rfl rfl ?_;refine M0 (q_len rfl rfl rfl) rfl rfl ?_
    refine M0 (q_neqK rfl rfl rfl rfl (by assumption)) rfl rfl ?_;refine L_nil (T_n ?_);refine A_ifF rfl ?_;refine A_skip (T_n (A_seq (A_seq ?_)))
    refine A_region ?_;refine M0 (q_assignC rfl rfl rfl) rfl rfl ?_;refine L_nil (T_n (A_block ?_))
    refine A_loop (fun m st => ∃ k : Nat,k + m = xs.length ∧ (xs.take k = ys.take k) ∧ st = (fun k : Nat => (⟨_,[(0,L xs),(1,L ys),(5,I k)],[]⟩ : St)) k) (xs.length) ⟨(fun k : Nat => (⟨_,[(0,L xs),(1,L ys),(5,I k)],[]⟩ : St)) 0,W_go [] (by decide) rfl (rfl) (.cons rfl (.cons rfl (.cons rfl (.nil)))),0,by omega,by simp,rfl⟩ ?_
    rintro m_A _ ⟨k,hk_A,hp_A,rfl⟩
    refine A_seq (A_seq (A_region ?_));refine M0 (q_moveC rfl rfl rfl) rfl rfl ?_;refine M0 (q_moveC rfl rfl rfl) rfl rfl ?_;refine M0 (q_len rfl rfl rfl) rfl rfl ?_
    refine M0 (q_lss rfl rfl rfl rfl) rfl rfl ?_;refine L_nil (T_n ?_)
    refine A_cond rfl (fun h => ?_) (fun h => ?_)
    · have h3 : k < xs.length := by have := of_decide_eq_true h; omega
      have h4 : k < ys.length := by omega
      have hat := els_at h3
      have hat2 := els_at h4
      have hc := eq_Flight xs[k] ys[k] (hn.2 _ (List.getElem_mem h3))
      by_cases he : xs[k] = ys[k]
      · rw [decide_eq_true he] at hc
        refine A_skip (T_n (A_seq (A_block (A_seq ?_))))
        refine A_draw [[],[],[0,1],[0,1,2],[],[],[4,5],[4,5,6],[0,1,2,3,4,5,6,7],[0,1,2,3,4,5,6,7,8]] [[],[],[17,18],[17,18,19],[],[],[21,22],[21,22,23],[17,18,19,20,21,22,23,24],[17,18,19,20,21,22,23,24,25]] [[18,21,22,23,24],[17,21,22,23,24],[21,22,23,24],[21,22,23,24],[17,18,19,20,22],[17,18,19,20,21],[17,18,19,20],[17,18,19,20],[],[]] rfl ?_
        refine DR.step (q_moveC rfl rfl rfl) rfl rfl ?_;refine DR.step (q_moveC rfl rfl rfl) rfl rfl ?_;refine DR.step (q_at rfl rfl rfl rfl (by omega) (by assumption) rfl) rfl rfl ?_
        refine DR.step (q_lrN rfl rfl rfl rfl rfl) rfl rfl ?_;refine DR.step (q_moveC rfl rfl rfl) rfl rfl ?_;refine DR.step (q_moveC rfl rfl rfl) rfl rfl ?_
        refine DR.step (q_at rfl rfl rfl rfl (by omega) (by assumption) rfl) rfl rfl ?_;refine DR.step (q_lrN rfl rfl rfl rfl rfl) rfl rfl ?_
        refine DR.step (q_call0 rfl rfl (hc) rfl) rfl rfl ?_;refine DR.step (q_not rfl rfl rfl) rfl rfl ?_;refine DR.stop (by kernel_rfl) (by kernel_rfl) ?_
        refine L_nil (T_n ?_);refine A_ifF rfl ?_;refine A_skip (B_n (T_n (A_region ?_)));refine M0 (q_moveC rfl rfl rfl) rfl rfl ?_
        refine M0 (q_add rfl rfl rfl rfl (by omega)) rfl rfl ?_;refine M0 (q_assignC rfl rfl rfl) rfl rfl ?_;refine L_nil (T_n ?_)
        exact ⟨xs.length - (k + 1),by omega,(fun k : Nat => (⟨_,[(0,L xs),(1,L ys),(5,I k)],[]⟩ : St)) (k + 1),W_go [] (by decide) rfl (rfl) (.cons rfl (.cons rfl (.cons rfl (.nil)))),k + 1,by omega,eq_next h3 h4 hp_A he,rfl⟩
      · rw [decide_eq_false he] at hc
        refine A_skip (T_n (A_seq (A_block (A_seq ?_))))
        refine A_draw [[],[],[0,1],[0,1,2],[],[],[4,5],[4,5,6],[0,1,2,3,4,5,6,7],[0,1,2,3,4,5,6,7,8]] [[],[],[17,18],[17,18,19],[],[],[21,22],[21,22,23],[17,18,19,20,21,22,23,24],[17,18,19,20,21,22,23,24,25]] [[18,21,22,23,24],[17,21,22,23,24],[21,22,23,24],[21,22,23,24],[17,18,19,20,22],[17,18,19,20,21],[17,18,19,20],[17,18,19,20],[],[]] rfl ?_
        refine DR.step (q_moveC rfl rfl rfl) rfl rfl ?_;refine DR.step (q_moveC rfl rfl rfl) rfl rfl ?_;refine DR.step (q_at rfl rfl rfl rfl (by omega) (by assumption) rfl) rfl rfl ?_
        refine DR.step (q_lrN rfl rfl rfl rfl rfl) rfl rfl ?_;refine DR.step (q_moveC rfl rfl rfl) rfl rfl ?_;refine DR.step (q_moveC rfl rfl rfl) rfl rfl ?_
        refine DR.step (q_at rfl rfl rfl rfl (by omega) (by assumption) rfl) rfl rfl ?_;refine DR.step (q_lrN rfl rfl rfl rfl rfl) rfl rfl ?_
        refine DR.step (q_call0 rfl rfl (hc) rfl) rfl rfl ?_;refine DR.step (q_not rfl rfl rfl) rfl rfl ?_;refine DR.stop (by kernel_rfl) (by kernel_rfl) ?_
        refine L_nil (T_n ?_);refine A_ifT rfl ?_;refine A_seq (A_region ?_);refine M0 (q_assignC rfl rfl rfl) rfl rfl ?_;refine L_nil (T_n (A_ret (B_r ?_)))
        refine T_r (T_r (B_r (T_r (F_r ?_))))
        exact E_tmp rfl rfl (W_end [] (by decide) rfl rfl (B_eq (eq_ne h3 h4 he).symm))
    · have h3 : ¬ ((k : Int) < (els xs).length) := of_decide_eq_false h
      refine A_exit (T_x (T_x (B_xs (T_n (A_seq (A_region ?_))))));refine M0 (q_assignC rfl rfl rfl) rfl rfl ?_;refine L_nil (T_n ?_)
      refine A_ret (F_r ?_)
      exact E_tmp rfl rfl (W_end [] (by decide) rfl rfl (B_eq (eq_all (by omega) hl hp_A).symm))
  · have hb : decide (((els xs).length : Int) ≠ ((els ys).length : Int)) = true := by rw [hlx,hly]; simp; omega
    refine Con.of Tryz.func108 rfl Tryz.ntmps108 rfl (fun E => ?_)
    refine A_seq (A_region ?_);refine M0 (q_assignC rfl rfl rfl) rfl rfl ?_;refine L_nil (T_n (A_seq (A_seq (A_region ?_))))
    refine M0 (q_moveC rfl rfl rfl) rfl rfl ?_;refine M0 (q_len rfl rfl rfl) rfl rfl ?_;refine M0 (q_moveC rfl rfl rfl) rfl rfl ?_;refine M0 (q_len rfl rfl rfl) rfl rfl ?_
    refine M0 (q_neqK rfl rfl rfl rfl (by assumption)) rfl rfl ?_;refine L_nil (T_n ?_);refine A_ifT rfl ?_;refine A_seq (A_region ?_)
    refine M0 (q_assignC rfl rfl rfl) rfl rfl ?_;refine L_nil (T_n (A_ret (T_r (F_r ?_))))
    exact E_tmp rfl rfl (W_end [] (by decide) rfl rfl (B_eq (eq_len hl).symm))
def zPace : List T := [.v (.int .i64 0),.v (.int .i64 0),.v (.int .i64 0),.v (.int .i64 0),.v (.int .i64 0)]
set_option maxHeartbeats 1000000 in
theorem to_PaceS (xs : List TPace) (hg : Enc.wt xs ≤ 1048576) : Con Tryz.prog 67 [] [al xs] [.row 5 (els xs)] (.o (.c (.ref 0))) := by
  have hlen := els_len xs
  have hw : Enc.wt xs = xs.length + wts xs := rfl
  have hw2 := wts_pace xs
  refine Con.of Tryz.func67 rfl Tryz.ntmps67 rfl (fun E => ?_)
  refine A_seq (A_region ?_);refine M0 (q_assignC rfl rfl rfl) rfl rfl ?_;refine L_nil (T_n (A_seq (A_region ?_)));refine M0 (q_moveC rfl rfl rfl) rfl rfl ?_
  refine M0 (q_len rfl rfl rfl) rfl rfl ?_;refine M1 (q_make 0 rfl rfl rfl rfl (by omega) (by omega) (by omega) rfl (by decide)) rfl rfl ?_;refine M0 (q_assignC rfl rfl rfl) rfl rfl ?_
  refine L_nil (T_n (A_seq (A_seq (A_region ?_))));refine M0 (q_assignC rfl rfl rfl) rfl rfl ?_;refine L_nil (T_n (A_block ?_))
  refine A_loop (fun m st => ∃ k : Nat,k + m = xs.length ∧ (True) ∧ st = (fun k : Nat => (⟨_,[(0,L xs),(3,.o (.c (.ref 0))),(4,I k)],[.row 5 (part xs zPace k)]⟩ : St)) k) (xs.length) ⟨(fun k : Nat => (⟨_,[(0,L xs),(3,.o (.c (.ref 0))),(4,I k)],[.row 5 (part xs zPace k)]⟩ : St)) 0,W_go [0] (by decide) rfl (row_eq (part_zero xs _)) (.cons rfl (.cons rfl (.cons rfl (.nil)))),0,by omega,trivial,rfl⟩ ?_
  rintro m_A _ ⟨k,hk_A,hp_A,rfl⟩
  refine A_seq (A_seq (A_region ?_));refine M0 (q_moveC rfl rfl rfl) rfl rfl ?_;refine M0 (q_moveC rfl rfl rfl) rfl rfl ?_;refine M0 (q_len rfl rfl rfl) rfl rfl ?_
  refine M0 (q_lss rfl rfl rfl rfl) rfl rfl ?_;refine L_nil (T_n ?_)
  refine A_cond rfl (fun h => ?_) (fun h => ?_)
  · have h3 : k < xs.length := by have := of_decide_eq_true h; omega
    have hat := els_at h3
    have hz := part_at xs zPace h3
    have hpl : (k : Int) < (part xs zPace k).length := by rw [part_len xs _ (by omega)]; omega
    have hc := to_Pace xs[k] (by show (0 : Nat) ≤ _; omega)
    refine A_skip (T_n (A_seq (A_block (A_region ?_))));refine M0 (q_moveC rfl rfl rfl) rfl rfl ?_;refine M0 (q_moveC rfl rfl rfl) rfl rfl ?_
    refine M0 (q_moveC rfl rfl rfl) rfl rfl ?_;refine M0 (q_moveC rfl rfl rfl) rfl rfl ?_;refine M0 (q_at rfl rfl rfl rfl (by omega) (by assumption) rfl) rfl rfl ?_
    refine M0 (q_lrN rfl rfl rfl rfl rfl) rfl rfl ?_;refine M1 (q_call rfl rfl (hc) rfl rfl rfl) rfl rfl ?_;refine M0 (q_ar rfl rfl rfl rfl rfl (by omega) (by assumption)) rfl rfl ?_
    refine M_steN rfl rfl rfl rfl rfl rfl rfl rfl rfl rfl (by assumption) rfl rfl ?_;refine L_nil (B_n (T_n (A_region ?_)))
    refine M0 (q_moveC rfl rfl rfl) rfl rfl ?_;refine M0 (q_add rfl rfl rfl rfl (by omega)) rfl rfl ?_;refine M0 (q_assignC rfl rfl rfl) rfl rfl ?_;refine L_nil (T_n ?_)
    exact ⟨xs.length - (k + 1),by omega,(fun k : Nat => (⟨_,[(0,L xs),(3,.o (.c (.ref 0))),(4,I k)],[.row 5 (part xs zPace k)]⟩ : St)) (k + 1),W_go [0] (by decide) rfl (row_eq (part_set xs zPace h3 _ (by rfl) (by rfl)).symm) (.cons rfl (.cons rfl (.cons rfl (.nil)))),k + 1,by omega,trivial,rfl⟩
  · have h3 : ¬ ((k : Int) < (els xs).length) := of_decide_eq_false h
    refine A_exit (T_x (T_x (B_xs (T_n (A_seq (A_region ?_))))));refine M0 (q_moveC rfl rfl rfl) rfl rfl ?_
    refine M0 (q_assignC rfl rfl rfl) rfl rfl ?_;refine L_nil (T_n (A_ret (F_r ?_)))
    exact E_tmp rfl rfl (W_end [0] (by decide) rfl (row_eq (part_all xs _ (by omega)).symm) rfl)
set_option maxHeartbeats 1000000 in
theorem eq_PaceS (xs ys : List TPace) (hn : Enc.gd xs) : Con Tryz.prog 80 [] [al xs,al ys] [] (B (decide (xs = ys))) := by
  have hn1 := hn.1
  have hlx := els_len xs
  have hly := els_len ys
  by_cases hl : xs.length = ys.length
  · have hb : decide (((els xs).length : Int) ≠ ((els ys).length : Int)) = false := by rw [hlx,hly,hl]; simp
    refine Con.of Tryz.func80 rfl Tryz.ntmps80 rfl (fun E => ?_)
    refine A_seq (A_region ?_);refine M0 (q_assignC rfl rfl rfl) rfl rfl ?_;refine L_nil (T_n (A_seq (A_seq (A_region ?_))))
    refine M0 (q_moveC rfl rfl rfl) rfl rfl ?_;refine M0 (q_len rfl rfl rfl) rfl rfl ?_;refine M0 (q_moveC rfl rfl rfl) rfl rfl ?_;refine M0 (q_len rfl rfl rfl) rfl rfl ?_
    refine M0 (q_neqK rfl rfl rfl rfl (by assumption)) rfl rfl ?_;refine L_nil (T_n ?_);refine A_ifF rfl ?_;refine A_skip (T_n (A_seq (A_seq ?_)))
    refine A_region ?_;refine M0 (q_assignC rfl rfl rfl) rfl rfl ?_;refine L_nil (T_n (A_block ?_))
    refine A_loop (fun m st => ∃ k : Nat,k + m = xs.length ∧ (xs.take k = ys.take k) ∧ st = (fun k : Nat => (⟨_,[(0,L xs),(1,L ys),(5,I k)],[]⟩ : St)) k) (xs.length) ⟨(fun k : Nat => (⟨_,[(0,L xs),(1,L ys),(5,I k)],[]⟩ : St)) 0,W_go [] (by decide) rfl (rfl) (.cons rfl (.cons rfl (.cons rfl (.nil)))),0,by omega,by simp,rfl⟩ ?_
    rintro m_A _ ⟨k,hk_A,hp_A,rfl⟩
    refine A_seq (A_seq (A_region ?_));refine M0 (q_moveC rfl rfl rfl) rfl rfl ?_;refine M0 (q_moveC rfl rfl rfl) rfl rfl ?_;refine M0 (q_len rfl rfl rfl) rfl rfl ?_
    refine M0 (q_lss rfl rfl rfl rfl) rfl rfl ?_;refine L_nil (T_n ?_)
    refine A_cond rfl (fun h => ?_) (fun h => ?_)
    · have h3 : k < xs.length := by have := of_decide_eq_true h; omega
      have h4 : k < ys.length := by omega
      have hat := els_at h3
      have hat2 := els_at h4
      have hc := eq_Pace xs[k] ys[k] (hn.2 _ (List.getElem_mem h3))
      by_cases he : xs[k] = ys[k]
      · rw [decide_eq_true he] at hc
        refine A_skip (T_n (A_seq (A_block (A_seq ?_))))
        refine A_draw [[],[],[0,1],[0,1,2],[],[],[4,5],[4,5,6],[0,1,2,3,4,5,6,7],[0,1,2,3,4,5,6,7,8]] [[],[],[17,18],[17,18,19],[],[],[21,22],[21,22,23],[17,18,19,20,21,22,23,24],[17,18,19,20,21,22,23,24,25]] [[18,21,22,23,24],[17,21,22,23,24],[21,22,23,24],[21,22,23,24],[17,18,19,20,22],[17,18,19,20,21],[17,18,19,20],[17,18,19,20],[],[]] rfl ?_
        refine DR.step (q_moveC rfl rfl rfl) rfl rfl ?_;refine DR.step (q_moveC rfl rfl rfl) rfl rfl ?_;refine DR.step (q_at rfl rfl rfl rfl (by omega) (by assumption) rfl) rfl rfl ?_
        refine DR.step (q_lrN rfl rfl rfl rfl rfl) rfl rfl ?_;refine DR.step (q_moveC rfl rfl rfl) rfl rfl ?_;refine DR.step (q_moveC rfl rfl rfl) rfl rfl ?_
        refine DR.step (q_at rfl rfl rfl rfl (by omega) (by assumption) rfl) rfl rfl ?_;refine DR.step (q_lrN rfl rfl rfl rfl rfl) rfl rfl ?_
        refine DR.step (q_call0 rfl rfl (hc) rfl) rfl rfl ?_;refine DR.step (q_not rfl rfl rfl) rfl rfl ?_;refine DR.stop (by kernel_rfl) (by kernel_rfl) ?_
        refine L_nil (T_n ?_);refine A_ifF rfl ?_;refine A_skip (B_n (T_n (A_region ?_)));refine M0 (q_moveC rfl rfl rfl) rfl rfl ?_
        refine M0 (q_add rfl rfl rfl rfl (by omega)) rfl rfl ?_;refine M0 (q_assignC rfl rfl rfl) rfl rfl ?_;refine L_nil (T_n ?_)
        exact ⟨xs.length - (k + 1),by omega,(fun k : Nat => (⟨_,[(0,L xs),(1,L ys),(5,I k)],[]⟩ : St)) (k + 1),W_go [] (by decide) rfl (rfl) (.cons rfl (.cons rfl (.cons rfl (.nil)))),k + 1,by omega,eq_next h3 h4 hp_A he,rfl⟩
      · rw [decide_eq_false he] at hc
        refine A_skip (T_n (A_seq (A_block (A_seq ?_))))
        refine A_draw [[],[],[0,1],[0,1,2],[],[],[4,5],[4,5,6],[0,1,2,3,4,5,6,7],[0,1,2,3,4,5,6,7,8]] [[],[],[17,18],[17,18,19],[],[],[21,22],[21,22,23],[17,18,19,20,21,22,23,24],[17,18,19,20,21,22,23,24,25]] [[18,21,22,23,24],[17,21,22,23,24],[21,22,23,24],[21,22,23,24],[17,18,19,20,22],[17,18,19,20,21],[17,18,19,20],[17,18,19,20],[],[]] rfl ?_
        refine DR.step (q_moveC rfl rfl rfl) rfl rfl ?_;refine DR.step (q_moveC rfl rfl rfl) rfl rfl ?_;refine DR.step (q_at rfl rfl rfl rfl (by omega) (by assumption) rfl) rfl rfl ?_
        refine DR.step (q_lrN rfl rfl rfl rfl rfl) rfl rfl ?_;refine DR.step (q_moveC rfl rfl rfl) rfl rfl ?_;refine DR.step (q_moveC rfl rfl rfl) rfl rfl ?_
        refine DR.step (q_at rfl rfl rfl rfl (by omega) (by assumption) rfl) rfl rfl ?_;refine DR.step (q_lrN rfl rfl rfl rfl rfl) rfl rfl ?_
        refine DR.step (q_call0 rfl rfl (hc) rfl) rfl rfl ?_;refine DR.step (q_not rfl rfl rfl) rfl rfl ?_;refine DR.stop (by kernel_rfl) (by kernel_rfl) ?_
        refine L_nil (T_n ?_);refine A_ifT rfl ?_;refine A_seq (A_region ?_);refine M0 (q_assignC rfl rfl rfl) rfl rfl ?_;refine L_nil (T_n (A_ret (B_r ?_)))
        refine T_r (T_r (B_r (T_r (F_r ?_))))
        exact E_tmp rfl rfl (W_end [] (by decide) rfl rfl (B_eq (eq_ne h3 h4 he).symm))
    · have h3 : ¬ ((k : Int) < (els xs).length) := of_decide_eq_false h
      refine A_exit (T_x (T_x (B_xs (T_n (A_seq (A_region ?_))))));refine M0 (q_assignC rfl rfl rfl) rfl rfl ?_;refine L_nil (T_n ?_)
      refine A_ret (F_r ?_)
      exact E_tmp rfl rfl (W_end [] (by decide) rfl rfl (B_eq (eq_all (by omega) hl hp_A).symm))
  · have hb : decide (((els xs).length : Int) ≠ ((els ys).length : Int)) = true := by rw [hlx,hly]; simp; omega
    refine Con.of Tryz.func80 rfl Tryz.ntmps80 rfl (fun E => ?_)
    refine A_seq (A_region ?_);refine M0 (q_assignC rfl rfl rfl) rfl rfl ?_;refine L_nil (T_n (A_seq (A_seq (A_region ?_))))
    refine M0 (q_moveC rfl rfl rfl) rfl rfl ?_;refine M0 (q_len rfl rfl rfl) rfl rfl ?_;refine M0 (q_moveC rfl rfl rfl) rfl rfl ?_;refine M0 (q_len rfl rfl rfl) rfl rfl ?_
    refine M0 (q_neqK rfl rfl rfl rfl (by assumption)) rfl rfl ?_;refine L_nil (T_n ?_);refine A_ifT rfl ?_;refine A_seq (A_region ?_)
    refine M0 (q_assignC rfl rfl rfl) rfl rfl ?_;refine L_nil (T_n (A_ret (T_r (F_r ?_))))
    exact E_tmp rfl rfl (W_end [] (by decide) rfl rfl (B_eq (eq_len hl).symm))
set_option maxHeartbeats 1000000 in
theorem sz_AlarmS (xs : List TAlarm) (left : Int) (hg : Enc.gd xs) (h0 : 0 ≤ left) (h1 : left ≤ 1048576) : Con Tryz.prog 19 [] [al xs,ai left] [] (I (szr (Enc.wt xs) left)) := by
  have hlen := els_len xs
  have hx := hg.1
  have hw : Enc.wt xs = xs.length + wts xs := rfl
  refine Con.of Tryz.func19 rfl Tryz.ntmps19 rfl (fun E => ?_)
  refine A_seq (A_region ?_);refine M0 (q_assignC rfl rfl rfl) rfl rfl ?_;refine L_nil (T_n (A_seq (A_region ?_)));refine M0 (q_moveC rfl rfl rfl) rfl rfl ?_
  refine M0 (q_moveC rfl rfl rfl) rfl rfl ?_;refine M0 (q_len rfl rfl rfl) rfl rfl ?_;refine M0 (q_sub rfl rfl rfl rfl (by omega)) rfl rfl ?_
  refine M0 (q_assignC rfl rfl rfl) rfl rfl ?_;refine L_nil (T_n (A_seq (A_seq (A_region ?_))));refine M0 (q_moveC rfl rfl rfl) rfl rfl ?_
  refine M0 (q_lss rfl rfl rfl rfl) rfl rfl ?_;refine L_nil (T_n ?_)
  refine A_cond rfl (fun h => ?_) (fun h => ?_)
  · refine A_seq (A_region ?_);refine M0 (q_assignC rfl rfl rfl) rfl rfl ?_;refine L_nil (T_n (A_ret (T_r (F_r ?_))))
    have h2 := of_decide_eq_true h
    exact E_tmp rfl rfl (W_end [] (by decide) rfl rfl (I_eq (by rw [szr_neg (by omega)])))
  have h2 : ¬ (left - ((els xs).length : Int) < 0) := of_decide_eq_false h
  refine A_skip (T_n (A_seq (A_seq (A_region ?_))));refine M0 (q_assignC rfl rfl rfl) rfl rfl ?_;refine L_nil (T_n (A_block ?_))
  refine A_loop (fun m st => ∃ k : Nat,k + m = xs.length ∧ (((xs.length : Int) + wts (xs.take k) ≤ left)) ∧ st = (fun k : Nat => (⟨_,[(0,L xs),(1,I (left - (xs.length + wts (xs.take k)))),(5,I k)],[]⟩ : St)) k) (xs.length) ⟨(fun k : Nat => (⟨_,[(0,L xs),(1,I (left - (xs.length + wts (xs.take k)))),(5,I k)],[]⟩ : St)) 0,W_go [] (by decide) rfl (rfl) (.cons rfl (.cons (I_eq (by simp [els,wts])) (.cons rfl (.nil)))),0,by omega,by simp [wts]; omega,rfl⟩ ?_
  rintro m_A _ ⟨k,hk_A,hp_A,rfl⟩
  refine A_seq (A_seq (A_region ?_));refine M0 (q_moveC rfl rfl rfl) rfl rfl ?_;refine M0 (q_moveC rfl rfl rfl) rfl rfl ?_;refine M0 (q_len rfl rfl rfl) rfl rfl ?_
  refine M0 (q_lss rfl rfl rfl rfl) rfl rfl ?_;refine L_nil (T_n ?_)
  refine A_cond rfl (fun h => ?_) (fun h => ?_)
  · have h3 : k < xs.length := by have := of_decide_eq_true h; omega
    have hat := els_at h3
    have hstep := wts_take xs k h3
    have hle := wts_take_le xs (k + 1)
    have hc := sz_Alarm xs[k] (left - ((xs.length : Int) + wts (xs.take k))) (hg.2 _ (List.getElem_mem h3)) (by omega) (by omega)
    by_cases h4 : left - ((xs.length : Int) + wts (xs.take k)) < Enc.wt xs[k]
    · rw [szr_neg h4] at hc
      have hb : decide ((-1 : Int) < 0) = true := rfl
      refine A_skip (T_n (A_seq (A_block (A_seq (A_region ?_)))));refine M0 (q_moveC rfl rfl rfl) rfl rfl ?_;refine M0 (q_moveC rfl rfl rfl) rfl rfl ?_
      refine M0 (q_at rfl rfl rfl rfl (by omega) (by assumption) rfl) rfl rfl ?_;refine M0 (q_lrN rfl rfl rfl rfl rfl) rfl rfl ?_;refine M0 (q_moveC rfl rfl rfl) rfl rfl ?_
      refine M0 (q_call0 rfl rfl (hc) rfl) rfl rfl ?_;refine M0 (q_assignC rfl rfl rfl) rfl rfl ?_;refine L_nil (T_n (A_seq (A_region ?_)))
      refine M0 (q_moveC rfl rfl rfl) rfl rfl ?_;refine M0 (q_lssK rfl rfl rfl rfl (by assumption)) rfl rfl ?_;refine L_nil (T_n ?_);refine A_ifT rfl ?_;refine A_seq ?_
      refine A_region ?_;refine M0 (q_assignC rfl rfl rfl) rfl rfl ?_;refine L_nil (T_n (A_ret (B_r (T_r (T_r (B_r (T_r ?_)))))))
      refine F_r ?_
      exact E_tmp rfl rfl (W_end [] (by decide) rfl rfl (I_eq (by rw [szr_neg (by omega)])))
    · rw [szr_pos (by omega)] at hc
      have hb : decide (left - ((xs.length : Int) + wts (xs.take k)) - Enc.wt xs[k] < 0) = false := decide_eq_false (by omega)
      refine A_skip (T_n (A_seq (A_block (A_seq (A_region ?_)))));refine M0 (q_moveC rfl rfl rfl) rfl rfl ?_;refine M0 (q_moveC rfl rfl rfl) rfl rfl ?_
      refine M0 (q_at rfl rfl rfl rfl (by omega) (by assumption) rfl) rfl rfl ?_;refine M0 (q_lrN rfl rfl rfl rfl rfl) rfl rfl ?_;refine M0 (q_moveC rfl rfl rfl) rfl rfl ?_
      refine M0 (q_call0 rfl rfl (hc) rfl) rfl rfl ?_;refine M0 (q_assignC rfl rfl rfl) rfl rfl ?_;refine L_nil (T_n (A_seq (A_region ?_)))
      refine M0 (q_moveC rfl rfl rfl) rfl rfl ?_;refine M0 (q_lssK rfl rfl rfl rfl (by assumption)) rfl rfl ?_;refine L_nil (T_n ?_);refine A_ifF rfl ?_;refine A_skip (B_n ?_)
      refine T_n (A_region ?_);refine M0 (q_moveC rfl rfl rfl) rfl rfl ?_;refine M0 (q_add rfl rfl rfl rfl (by omega)) rfl rfl ?_;refine M0 (q_assignC rfl rfl rfl) rfl rfl ?_
      refine L_nil (T_n ?_)
      exact ⟨xs.length - (k + 1),by omega,(fun k : Nat => (⟨_,[(0,L xs),(1,I (left - (xs.length + wts (xs.take k)))),(5,I k)],[]⟩ : St)) (k + 1),W_go [] (by decide) rfl (rfl) (.cons rfl (.cons (I_eq (by rw [hstep]; omega)) (.cons rfl (.nil)))),k + 1,by omega,by omega,rfl⟩
  · have h3 : ¬ ((k : Int) < (els xs).length) := of_decide_eq_false h
    have hk : wts (xs.take k) = wts xs := by rw [List.take_of_length_le (by omega)]
    refine A_exit (T_x (T_x (B_xs (T_n (A_seq (A_region ?_))))));refine M0 (q_moveC rfl rfl rfl) rfl rfl ?_
    refine M0 (q_assignC rfl rfl rfl) rfl rfl ?_;refine L_nil (T_n (A_ret (F_r ?_)))
    exact E_tmp rfl rfl (W_end [] (by decide) rfl rfl (I_eq (by rw [szr_pos (by omega)]; omega)))
def zAlarm : List T := [.v (.int .i64 0),.sl 1 []]
set_option maxHeartbeats 1000000 in
theorem to_AlarmS (xs : List TAlarm) (hg : Enc.wt xs ≤ 1048576) : Con Tryz.prog 35 [] [al xs] [.row 2 (els xs)] (.o (.c (.ref 0))) := by
  have hlen := els_len xs
  have hw : Enc.wt xs = xs.length + wts xs := rfl
  refine Con.of Tryz.func35 rfl Tryz.ntmps35 rfl (fun E => ?_)
  refine A_seq (A_region ?_);refine M0 (q_assignC rfl rfl rfl) rfl rfl ?_;refine L_nil (T_n (A_seq (A_region ?_)));refine M0 (q_moveC rfl rfl rfl) rfl rfl ?_
  refine M0 (q_len rfl rfl rfl) rfl rfl ?_;refine M1 (q_make 1 rfl rfl rfl rfl (by omega) (by omega) (by omega) rfl (by decide)) rfl rfl ?_;refine M0 (q_assignC rfl rfl rfl) rfl rfl ?_
  refine L_nil (T_n (A_seq (A_seq (A_region ?_))));refine M0 (q_assignC rfl rfl rfl) rfl rfl ?_;refine L_nil (T_n (A_block ?_))
  refine A_loop (fun m st => ∃ k : Nat,k + m = xs.length ∧ (True) ∧ st = (fun k : Nat => (⟨_,[(0,L xs),(3,.o (.c (.ref 0))),(4,I k)],[.row 2 (part xs zAlarm k)]⟩ : St)) k) (xs.length) ⟨(fun k : Nat => (⟨_,[(0,L xs),(3,.o (.c (.ref 0))),(4,I k)],[.row 2 (part xs zAlarm k)]⟩ : St)) 0,W_go [0] (by decide) rfl (row_eq (part_zero xs _)) (.cons rfl (.cons rfl (.cons rfl (.nil)))),0,by omega,trivial,rfl⟩ ?_
  rintro m_A _ ⟨k,hk_A,hp_A,rfl⟩
  refine A_seq (A_seq (A_region ?_));refine M0 (q_moveC rfl rfl rfl) rfl rfl ?_;refine M0 (q_moveC rfl rfl rfl) rfl rfl ?_;refine M0 (q_len rfl rfl rfl) rfl rfl ?_
  refine M0 (q_lss rfl rfl rfl rfl) rfl rfl ?_;refine L_nil (T_n ?_)
  refine A_cond rfl (fun h => ?_) (fun h => ?_)
  · have h3 : k < xs.length := by have := of_decide_eq_true h; omega
    have hat := els_at h3
    have hz := part_at xs zAlarm h3
    have hpl : (k : Int) < (part xs zAlarm k).length := by rw [part_len xs _ (by omega)]; omega
    have hwt : Enc.wt xs[k] ≤ wts xs := wts_le xs _ (List.getElem_mem h3)
    have hc := to_Alarm xs[k] (by omega)
    refine A_skip (T_n (A_seq (A_block (A_region ?_))));refine M0 (q_moveC rfl rfl rfl) rfl rfl ?_;refine M0 (q_moveC rfl rfl rfl) rfl rfl ?_
    refine M0 (q_moveC rfl rfl rfl) rfl rfl ?_;refine M0 (q_moveC rfl rfl rfl) rfl rfl ?_;refine M0 (q_at rfl rfl rfl rfl (by omega) (by assumption) rfl) rfl rfl ?_
    refine M0 (q_lrN rfl rfl rfl rfl rfl) rfl rfl ?_;refine M1 (q_call rfl rfl (hc) rfl rfl rfl) rfl rfl ?_;refine M0 (q_ar rfl rfl rfl rfl rfl (by omega) (by assumption)) rfl rfl ?_
    refine M_steN rfl rfl rfl rfl rfl rfl rfl rfl rfl rfl (by assumption) rfl rfl ?_;refine L_nil (B_n (T_n (A_region ?_)))
    refine M0 (q_moveC rfl rfl rfl) rfl rfl ?_;refine M0 (q_add rfl rfl rfl rfl (by omega)) rfl rfl ?_;refine M0 (q_assignC rfl rfl rfl) rfl rfl ?_;refine L_nil (T_n ?_)
    exact ⟨xs.length - (k + 1),by omega,(fun k : Nat => (⟨_,[(0,L xs),(3,.o (.c (.ref 0))),(4,I k)],[.row 2 (part xs zAlarm k)]⟩ : St)) (k + 1),W_go [0] (by decide) rfl (row_eq (part_set xs zAlarm h3 _ (by rfl) (by rfl)).symm) (.cons rfl (.cons rfl (.cons rfl (.nil)))),k + 1,by omega,trivial,rfl⟩
  · have h3 : ¬ ((k : Int) < (els xs).length) := of_decide_eq_false h
    refine A_exit (T_x (T_x (B_xs (T_n (A_seq (A_region ?_))))));refine M0 (q_moveC rfl rfl rfl) rfl rfl ?_
    refine M0 (q_assignC rfl rfl rfl) rfl rfl ?_;refine L_nil (T_n (A_ret (F_r ?_)))
    exact E_tmp rfl rfl (W_end [0] (by decide) rfl (row_eq (part_all xs _ (by omega)).symm) rfl)
set_option maxHeartbeats 1000000 in
theorem eq_AlarmS (xs ys : List TAlarm) (hn : Enc.gd xs) : Con Tryz.prog 49 [] [al xs,al ys] [] (B (decide (xs = ys))) := by
  have hn1 := hn.1
  have hlx := els_len xs
  have hly := els_len ys
  by_cases hl : xs.length = ys.length
  · have hb : decide (((els xs).length : Int) ≠ ((els ys).length : Int)) = false := by rw [hlx,hly,hl]; simp
    refine Con.of Tryz.func49 rfl Tryz.ntmps49 rfl (fun E => ?_)
    refine A_seq (A_region ?_);refine M0 (q_assignC rfl rfl rfl) rfl rfl ?_;refine L_nil (T_n (A_seq (A_seq (A_region ?_))))
    refine M0 (q_moveC rfl rfl rfl) rfl rfl ?_;refine M0 (q_len rfl rfl rfl) rfl rfl ?_;refine M0 (q_moveC rfl rfl rfl) rfl rfl ?_;refine M0 (q_len rfl rfl rfl) rfl rfl ?_
    refine M0 (q_neqK rfl rfl rfl rfl (by assumption)) rfl rfl ?_;refine L_nil (T_n ?_);refine A_ifF rfl ?_;refine A_skip (T_n (A_seq (A_seq ?_)))
    refine A_region ?_;refine M0 (q_assignC rfl rfl rfl) rfl rfl ?_;refine L_nil (T_n (A_block ?_))
    refine A_loop (fun m st => ∃ k : Nat,k + m = xs.length ∧ (xs.take k = ys.take k) ∧ st = (fun k : Nat => (⟨_,[(0,L xs),(1,L ys),(5,I k)],[]⟩ : St)) k) (xs.length) ⟨(fun k : Nat => (⟨_,[(0,L xs),(1,L ys),(5,I k)],[]⟩ : St)) 0,W_go [] (by decide) rfl (rfl) (.cons rfl (.cons rfl (.cons rfl (.nil)))),0,by omega,by simp,rfl⟩ ?_
    rintro m_A _ ⟨k,hk_A,hp_A,rfl⟩
    refine A_seq (A_seq (A_region ?_));refine M0 (q_moveC rfl rfl rfl) rfl rfl ?_;refine M0 (q_moveC rfl rfl rfl) rfl rfl ?_;refine M0 (q_len rfl rfl rfl) rfl rfl ?_
    refine M0 (q_lss rfl rfl rfl rfl) rfl rfl ?_;refine L_nil (T_n ?_)
    refine A_cond rfl (fun h => ?_) (fun h => ?_)
    · have h3 : k < xs.length := by have := of_decide_eq_true h; omega
      have h4 : k < ys.length := by omega
      have hat := els_at h3
      have hat2 := els_at h4
      have hc := eq_Alarm xs[k] ys[k] (hn.2 _ (List.getElem_mem h3))
      by_cases he : xs[k] = ys[k]
      · rw [decide_eq_true he] at hc
        refine A_skip (T_n (A_seq (A_block (A_seq ?_))))
        refine A_draw [[],[],[0,1],[0,1,2],[],[],[4,5],[4,5,6],[0,1,2,3,4,5,6,7],[0,1,2,3,4,5,6,7,8]] [[],[],[17,18],[17,18,19],[],[],[21,22],[21,22,23],[17,18,19,20,21,22,23,24],[17,18,19,20,21,22,23,24,25]] [[18,21,22,23,24],[17,21,22,23,24],[21,22,23,24],[21,22,23,24],[17,18,19,20,22],[17,18,19,20,21],[17,18,19,20],[17,18,19,20],[],[]] rfl ?_
        refine DR.step (q_moveC rfl rfl rfl) rfl rfl ?_;refine DR.step (q_moveC rfl rfl rfl) rfl rfl ?_;refine DR.step (q_at rfl rfl rfl rfl (by omega) (by assumption) rfl) rfl rfl ?_
        refine DR.step (q_lrN rfl rfl rfl rfl rfl) rfl rfl ?_;refine DR.step (q_moveC rfl rfl rfl) rfl rfl ?_;refine DR.step (q_moveC rfl rfl rfl) rfl rfl ?_
        refine DR.step (q_at rfl rfl rfl rfl (by omega) (by assumption) rfl) rfl rfl ?_;refine DR.step (q_lrN rfl rfl rfl rfl rfl) rfl rfl ?_
        refine DR.step (q_call0 rfl rfl (hc) rfl) rfl rfl ?_;refine DR.step (q_not rfl rfl rfl) rfl rfl ?_;refine DR.stop (by kernel_rfl) (by kernel_rfl) ?_
        refine L_nil (T_n ?_);refine A_ifF rfl ?_;refine A_skip (B_n (T_n (A_region ?_)));refine M0 (q_moveC rfl rfl rfl) rfl rfl ?_
        refine M0 (q_add rfl rfl rfl rfl (by omega)) rfl rfl ?_;refine M0 (q_assignC rfl rfl rfl) rfl rfl ?_;refine L_nil (T_n ?_)
        exact ⟨xs.length - (k + 1),by omega,(fun k : Nat => (⟨_,[(0,L xs),(1,L ys),(5,I k)],[]⟩ : St)) (k + 1),W_go [] (by decide) rfl (rfl) (.cons rfl (.cons rfl (.cons rfl (.nil)))),k + 1,by omega,eq_next h3 h4 hp_A he,rfl⟩
      · rw [decide_eq_false he] at hc
        refine A_skip (T_n (A_seq (A_block (A_seq ?_))))
        refine A_draw [[],[],[0,1],[0,1,2],[],[],[4,5],[4,5,6],[0,1,2,3,4,5,6,7],[0,1,2,3,4,5,6,7,8]] [[],[],[17,18],[17,18,19],[],[],[21,22],[21,22,23],[17,18,19,20,21,22,23,24],[17,18,19,20,21,22,23,24,25]] [[18,21,22,23,24],[17,21,22,23,24],[21,22,23,24],[21,22,23,24],[17,18,19,20,22],[17,18,19,20,21],[17,18,19,20],[17,18,19,20],[],[]] rfl ?_
        refine DR.step (q_moveC rfl rfl rfl) rfl rfl ?_;refine DR.step (q_moveC rfl rfl rfl) rfl rfl ?_;refine DR.step (q_at rfl rfl rfl rfl (by omega) (by assumption) rfl) rfl rfl ?_
        refine DR.step (q_lrN rfl rfl rfl rfl rfl) rfl rfl ?_;refine DR.step (q_moveC rfl rfl rfl) rfl rfl ?_;refine DR.step (q_moveC rfl rfl rfl) rfl rfl ?_
        refine DR.step (q_at rfl rfl rfl rfl (by omega) (by assumption) rfl) rfl rfl ?_;refine DR.step (q_lrN rfl rfl rfl rfl rfl) rfl rfl ?_
        refine DR.step (q_call0 rfl rfl (hc) rfl) rfl rfl ?_;refine DR.step (q_not rfl rfl rfl) rfl rfl ?_;refine DR.stop (by kernel_rfl) (by kernel_rfl) ?_
        refine L_nil (T_n ?_);refine A_ifT rfl ?_;refine A_seq (A_region ?_);refine M0 (q_assignC rfl rfl rfl) rfl rfl ?_;refine L_nil (T_n (A_ret (B_r ?_)))
        refine T_r (T_r (B_r (T_r (F_r ?_))))
        exact E_tmp rfl rfl (W_end [] (by decide) rfl rfl (B_eq (eq_ne h3 h4 he).symm))
    · have h3 : ¬ ((k : Int) < (els xs).length) := of_decide_eq_false h
      refine A_exit (T_x (T_x (B_xs (T_n (A_seq (A_region ?_))))));refine M0 (q_assignC rfl rfl rfl) rfl rfl ?_;refine L_nil (T_n ?_)
      refine A_ret (F_r ?_)
      exact E_tmp rfl rfl (W_end [] (by decide) rfl rfl (B_eq (eq_all (by omega) hl hp_A).symm))
  · have hb : decide (((els xs).length : Int) ≠ ((els ys).length : Int)) = true := by rw [hlx,hly]; simp; omega
    refine Con.of Tryz.func49 rfl Tryz.ntmps49 rfl (fun E => ?_)
    refine A_seq (A_region ?_);refine M0 (q_assignC rfl rfl rfl) rfl rfl ?_;refine L_nil (T_n (A_seq (A_seq (A_region ?_))))
    refine M0 (q_moveC rfl rfl rfl) rfl rfl ?_;refine M0 (q_len rfl rfl rfl) rfl rfl ?_;refine M0 (q_moveC rfl rfl rfl) rfl rfl ?_;refine M0 (q_len rfl rfl rfl) rfl rfl ?_
    refine M0 (q_neqK rfl rfl rfl rfl (by assumption)) rfl rfl ?_;refine L_nil (T_n ?_);refine A_ifT rfl ?_;refine A_seq (A_region ?_)
    refine M0 (q_assignC rfl rfl rfl) rfl rfl ?_;refine L_nil (T_n (A_ret (T_r (F_r ?_))))
    exact E_tmp rfl rfl (W_end [] (by decide) rfl rfl (B_eq (eq_len hl).symm))
set_option maxHeartbeats 1000000 in
theorem sz_SpectatorS (xs : List TSpectator) (left : Int) (hg : Enc.gd xs) (h0 : 0 ≤ left) (h1 : left ≤ 1048576) : Con Tryz.prog 17 [] [al xs,ai left] [] (I (szr (Enc.wt xs) left)) := by
  have hlen := els_len xs
  have hx := hg.1
  have hw : Enc.wt xs = xs.length + wts xs := rfl
  refine Con.of Tryz.func17 rfl Tryz.ntmps17 rfl (fun E => ?_)
  refine A_seq (A_region ?_);refine M0 (q_assignC rfl rfl rfl) rfl rfl ?_;refine L_nil (T_n (A_seq (A_region ?_)));refine M0 (q_moveC rfl rfl rfl) rfl rfl ?_
  refine M0 (q_moveC rfl rfl rfl) rfl rfl ?_;refine M0 (q_len rfl rfl rfl) rfl rfl ?_;refine M0 (q_sub rfl rfl rfl rfl (by omega)) rfl rfl ?_
  refine M0 (q_assignC rfl rfl rfl) rfl rfl ?_;refine L_nil (T_n (A_seq (A_seq (A_region ?_))));refine M0 (q_moveC rfl rfl rfl) rfl rfl ?_
  refine M0 (q_lss rfl rfl rfl rfl) rfl rfl ?_;refine L_nil (T_n ?_)
  refine A_cond rfl (fun h => ?_) (fun h => ?_)
  · refine A_seq (A_region ?_);refine M0 (q_assignC rfl rfl rfl) rfl rfl ?_;refine L_nil (T_n (A_ret (T_r (F_r ?_))))
    have h2 := of_decide_eq_true h
    exact E_tmp rfl rfl (W_end [] (by decide) rfl rfl (I_eq (by rw [szr_neg (by omega)])))
  have h2 : ¬ (left - ((els xs).length : Int) < 0) := of_decide_eq_false h
  refine A_skip (T_n (A_seq (A_seq (A_region ?_))));refine M0 (q_assignC rfl rfl rfl) rfl rfl ?_;refine L_nil (T_n (A_block ?_))
  refine A_loop (fun m st => ∃ k : Nat,k + m = xs.length ∧ (((xs.length : Int) + wts (xs.take k) ≤ left)) ∧ st = (fun k : Nat => (⟨_,[(0,L xs),(1,I (left - (xs.length + wts (xs.take k)))),(5,I k)],[]⟩ : St)) k) (xs.length) ⟨(fun k : Nat => (⟨_,[(0,L xs),(1,I (left - (xs.length + wts (xs.take k)))),(5,I k)],[]⟩ : St)) 0,W_go [] (by decide) rfl (rfl) (.cons rfl (.cons (I_eq (by simp [els,wts])) (.cons rfl (.nil)))),0,by omega,by simp [wts]; omega,rfl⟩ ?_
  rintro m_A _ ⟨k,hk_A,hp_A,rfl⟩
  refine A_seq (A_seq (A_region ?_));refine M0 (q_moveC rfl rfl rfl) rfl rfl ?_;refine M0 (q_moveC rfl rfl rfl) rfl rfl ?_;refine M0 (q_len rfl rfl rfl) rfl rfl ?_
  refine M0 (q_lss rfl rfl rfl rfl) rfl rfl ?_;refine L_nil (T_n ?_)
  refine A_cond rfl (fun h => ?_) (fun h => ?_)
  · have h3 : k < xs.length := by have := of_decide_eq_true h; omega
    have hat := els_at h3
    have hstep := wts_take xs k h3
    have hle := wts_take_le xs (k + 1)
    have hc := sz_Spectator xs[k] (left - ((xs.length : Int) + wts (xs.take k))) (hg.2 _ (List.getElem_mem h3)) (by omega) (by omega)
    by_cases h4 : left - ((xs.length : Int) + wts (xs.take k)) < Enc.wt xs[k]
    · rw [szr_neg h4] at hc
      have hb : decide ((-1 : Int) < 0) = true := rfl
      refine A_skip (T_n (A_seq (A_block (A_seq (A_region ?_)))));refine M0 (q_moveC rfl rfl rfl) rfl rfl ?_;refine M0 (q_moveC rfl rfl rfl) rfl rfl ?_
      refine M0 (q_at rfl rfl rfl rfl (by omega) (by assumption) rfl) rfl rfl ?_;refine M0 (q_lrN rfl rfl rfl rfl rfl) rfl rfl ?_;refine M0 (q_moveC rfl rfl rfl) rfl rfl ?_
      refine M0 (q_call0 rfl rfl (hc) rfl) rfl rfl ?_;refine M0 (q_assignC rfl rfl rfl) rfl rfl ?_;refine L_nil (T_n (A_seq (A_region ?_)))
      refine M0 (q_moveC rfl rfl rfl) rfl rfl ?_;refine M0 (q_lssK rfl rfl rfl rfl (by assumption)) rfl rfl ?_;refine L_nil (T_n ?_);refine A_ifT rfl ?_;refine A_seq ?_
      refine A_region ?_;refine M0 (q_assignC rfl rfl rfl) rfl rfl ?_;refine L_nil (T_n (A_ret (B_r (T_r (T_r (B_r (T_r ?_)))))))
      refine F_r ?_
      exact E_tmp rfl rfl (W_end [] (by decide) rfl rfl (I_eq (by rw [szr_neg (by omega)])))
    · rw [szr_pos (by omega)] at hc
      have hb : decide (left - ((xs.length : Int) + wts (xs.take k)) - Enc.wt xs[k] < 0) = false := decide_eq_false (by omega)
      refine A_skip (T_n (A_seq (A_block (A_seq (A_region ?_)))));refine M0 (q_moveC rfl rfl rfl) rfl rfl ?_;refine M0 (q_moveC rfl rfl rfl) rfl rfl ?_
      refine M0 (q_at rfl rfl rfl rfl (by omega) (by assumption) rfl) rfl rfl ?_;refine M0 (q_lrN rfl rfl rfl rfl rfl) rfl rfl ?_;refine M0 (q_moveC rfl rfl rfl) rfl rfl ?_
      refine M0 (q_call0 rfl rfl (hc) rfl) rfl rfl ?_;refine M0 (q_assignC rfl rfl rfl) rfl rfl ?_;refine L_nil (T_n (A_seq (A_region ?_)))
      refine M0 (q_moveC rfl rfl rfl) rfl rfl ?_;refine M0 (q_lssK rfl rfl rfl rfl (by assumption)) rfl rfl ?_;refine L_nil (T_n ?_);refine A_ifF rfl ?_;refine A_skip (B_n ?_)
      refine T_n (A_region ?_);refine M0 (q_moveC rfl rfl rfl) rfl rfl ?_;refine M0 (q_add rfl rfl rfl rfl (by omega)) rfl rfl ?_;refine M0 (q_assignC rfl rfl rfl) rfl rfl ?_
      refine L_nil (T_n ?_)
      exact ⟨xs.length - (k + 1),by omega,(fun k : Nat => (⟨_,[(0,L xs),(1,I (left - (xs.length + wts (xs.take k)))),(5,I k)],[]⟩ : St)) (k + 1),W_go [] (by decide) rfl (rfl) (.cons rfl (.cons (I_eq (by rw [hstep]; omega)) (.cons rfl (.nil)))),k + 1,by omega,by omega,rfl⟩
  · have h3 : ¬ ((k : Int) < (els xs).length) := of_decide_eq_false h
    have hk : wts (xs.take k) = wts xs := by rw [List.take_of_length_le (by omega)]
    refine A_exit (T_x (T_x (B_xs (T_n (A_seq (A_region ?_))))));refine M0 (q_moveC rfl rfl rfl) rfl rfl ?_
    refine M0 (q_assignC rfl rfl rfl) rfl rfl ?_;refine L_nil (T_n (A_ret (F_r ?_)))
    exact E_tmp rfl rfl (W_end [] (by decide) rfl rfl (I_eq (by rw [szr_pos (by omega)]; omega)))
def zSpectator : List T := [.sl 1 [],.v (.int .i64 0),.v (.int .i64 0),.sl 1 [],.sl 1 [],.v (.int .i64 0)]
set_option maxHeartbeats 1000000 in
theorem to_SpectatorS (xs : List TSpectator) (hg : Enc.wt xs ≤ 1048576) : Con Tryz.prog 33 [] [al xs] [.row 6 (els xs)] (.o (.c (.ref 0))) := by
  have hlen := els_len xs
  have hw : Enc.wt xs = xs.length + wts xs := rfl
  refine Con.of Tryz.func33 rfl Tryz.ntmps33 rfl (fun E => ?_)
  refine A_seq (A_region ?_);refine M0 (q_assignC rfl rfl rfl) rfl rfl ?_;refine L_nil (T_n (A_seq (A_region ?_)));refine M0 (q_moveC rfl rfl rfl) rfl rfl ?_
  refine M0 (q_len rfl rfl rfl) rfl rfl ?_;refine M1 (q_make 1 rfl rfl rfl rfl (by omega) (by omega) (by omega) rfl (by decide)) rfl rfl ?_;refine M0 (q_assignC rfl rfl rfl) rfl rfl ?_
  refine L_nil (T_n (A_seq (A_seq (A_region ?_))));refine M0 (q_assignC rfl rfl rfl) rfl rfl ?_;refine L_nil (T_n (A_block ?_))
  refine A_loop (fun m st => ∃ k : Nat,k + m = xs.length ∧ (True) ∧ st = (fun k : Nat => (⟨_,[(0,L xs),(3,.o (.c (.ref 0))),(4,I k)],[.row 6 (part xs zSpectator k)]⟩ : St)) k) (xs.length) ⟨(fun k : Nat => (⟨_,[(0,L xs),(3,.o (.c (.ref 0))),(4,I k)],[.row 6 (part xs zSpectator k)]⟩ : St)) 0,W_go [0] (by decide) rfl (row_eq (part_zero xs _)) (.cons rfl (.cons rfl (.cons rfl (.nil)))),0,by omega,trivial,rfl⟩ ?_
  rintro m_A _ ⟨k,hk_A,hp_A,rfl⟩
  refine A_seq (A_seq (A_region ?_));refine M0 (q_moveC rfl rfl rfl) rfl rfl ?_;refine M0 (q_moveC rfl rfl rfl) rfl rfl ?_;refine M0 (q_len rfl rfl rfl) rfl rfl ?_
  refine M0 (q_lss rfl rfl rfl rfl) rfl rfl ?_;refine L_nil (T_n ?_)
  refine A_cond rfl (fun h => ?_) (fun h => ?_)
  · have h3 : k < xs.length := by have := of_decide_eq_true h; omega
    have hat := els_at h3
    have hz := part_at xs zSpectator h3
    have hpl : (k : Int) < (part xs zSpectator k).length := by rw [part_len xs _ (by omega)]; omega
    have hwt : Enc.wt xs[k] ≤ wts xs := wts_le xs _ (List.getElem_mem h3)
    have hc := to_Spectator xs[k] (by omega)
    refine A_skip (T_n (A_seq (A_block (A_region ?_))));refine M0 (q_moveC rfl rfl rfl) rfl rfl ?_;refine M0 (q_moveC rfl rfl rfl) rfl rfl ?_
    refine M0 (q_moveC rfl rfl rfl) rfl rfl ?_;refine M0 (q_moveC rfl rfl rfl) rfl rfl ?_;refine M0 (q_at rfl rfl rfl rfl (by omega) (by assumption) rfl) rfl rfl ?_
    refine M0 (q_lrN rfl rfl rfl rfl rfl) rfl rfl ?_;refine M1 (q_call rfl rfl (hc) rfl rfl rfl) rfl rfl ?_;refine M0 (q_ar rfl rfl rfl rfl rfl (by omega) (by assumption)) rfl rfl ?_
    refine M_steN rfl rfl rfl rfl rfl rfl rfl rfl rfl rfl (by assumption) rfl rfl ?_;refine L_nil (B_n (T_n (A_region ?_)))
    refine M0 (q_moveC rfl rfl rfl) rfl rfl ?_;refine M0 (q_add rfl rfl rfl rfl (by omega)) rfl rfl ?_;refine M0 (q_assignC rfl rfl rfl) rfl rfl ?_;refine L_nil (T_n ?_)
    exact ⟨xs.length - (k + 1),by omega,(fun k : Nat => (⟨_,[(0,L xs),(3,.o (.c (.ref 0))),(4,I k)],[.row 6 (part xs zSpectator k)]⟩ : St)) (k + 1),W_go [0] (by decide) rfl (row_eq (part_set xs zSpectator h3 _ (by rfl) (by rfl)).symm) (.cons rfl (.cons rfl (.cons rfl (.nil)))),k + 1,by omega,trivial,rfl⟩
  · have h3 : ¬ ((k : Int) < (els xs).length) := of_decide_eq_false h
    refine A_exit (T_x (T_x (B_xs (T_n (A_seq (A_region ?_))))));refine M0 (q_moveC rfl rfl rfl) rfl rfl ?_
    refine M0 (q_assignC rfl rfl rfl) rfl rfl ?_;refine L_nil (T_n (A_ret (F_r ?_)))
    exact E_tmp rfl rfl (W_end [0] (by decide) rfl (row_eq (part_all xs _ (by omega)).symm) rfl)
set_option maxHeartbeats 1000000 in
theorem eq_SpectatorS (xs ys : List TSpectator) (hn : Enc.gd xs) : Con Tryz.prog 47 [] [al xs,al ys] [] (B (decide (xs = ys))) := by
  have hn1 := hn.1
  have hlx := els_len xs
  have hly := els_len ys
  by_cases hl : xs.length = ys.length
  · have hb : decide (((els xs).length : Int) ≠ ((els ys).length : Int)) = false := by rw [hlx,hly,hl]; simp
    refine Con.of Tryz.func47 rfl Tryz.ntmps47 rfl (fun E => ?_)
    refine A_seq (A_region ?_);refine M0 (q_assignC rfl rfl rfl) rfl rfl ?_;refine L_nil (T_n (A_seq (A_seq (A_region ?_))))
    refine M0 (q_moveC rfl rfl rfl) rfl rfl ?_;refine M0 (q_len rfl rfl rfl) rfl rfl ?_;refine M0 (q_moveC rfl rfl rfl) rfl rfl ?_;refine M0 (q_len rfl rfl rfl) rfl rfl ?_
    refine M0 (q_neqK rfl rfl rfl rfl (by assumption)) rfl rfl ?_;refine L_nil (T_n ?_);refine A_ifF rfl ?_;refine A_skip (T_n (A_seq (A_seq ?_)))
    refine A_region ?_;refine M0 (q_assignC rfl rfl rfl) rfl rfl ?_;refine L_nil (T_n (A_block ?_))
    refine A_loop (fun m st => ∃ k : Nat,k + m = xs.length ∧ (xs.take k = ys.take k) ∧ st = (fun k : Nat => (⟨_,[(0,L xs),(1,L ys),(5,I k)],[]⟩ : St)) k) (xs.length) ⟨(fun k : Nat => (⟨_,[(0,L xs),(1,L ys),(5,I k)],[]⟩ : St)) 0,W_go [] (by decide) rfl (rfl) (.cons rfl (.cons rfl (.cons rfl (.nil)))),0,by omega,by simp,rfl⟩ ?_
    rintro m_A _ ⟨k,hk_A,hp_A,rfl⟩
    refine A_seq (A_seq (A_region ?_));refine M0 (q_moveC rfl rfl rfl) rfl rfl ?_;refine M0 (q_moveC rfl rfl rfl) rfl rfl ?_;refine M0 (q_len rfl rfl rfl) rfl rfl ?_
    refine M0 (q_lss rfl rfl rfl rfl) rfl rfl ?_;refine L_nil (T_n ?_)
    refine A_cond rfl (fun h => ?_) (fun h => ?_)
    · have h3 : k < xs.length := by have := of_decide_eq_true h; omega
      have h4 : k < ys.length := by omega
      have hat := els_at h3
      have hat2 := els_at h4
      have hc := eq_Spectator xs[k] ys[k] (hn.2 _ (List.getElem_mem h3))
      by_cases he : xs[k] = ys[k]
      · rw [decide_eq_true he] at hc
        refine A_skip (T_n (A_seq (A_block (A_seq ?_))))
        refine A_draw [[],[],[0,1],[0,1,2],[],[],[4,5],[4,5,6],[0,1,2,3,4,5,6,7],[0,1,2,3,4,5,6,7,8]] [[],[],[17,18],[17,18,19],[],[],[21,22],[21,22,23],[17,18,19,20,21,22,23,24],[17,18,19,20,21,22,23,24,25]] [[18,21,22,23,24],[17,21,22,23,24],[21,22,23,24],[21,22,23,24],[17,18,19,20,22],[17,18,19,20,21],[17,18,19,20],[17,18,19,20],[],[]] rfl ?_
        refine DR.step (q_moveC rfl rfl rfl) rfl rfl ?_;refine DR.step (q_moveC rfl rfl rfl) rfl rfl ?_;refine DR.step (q_at rfl rfl rfl rfl (by omega) (by assumption) rfl) rfl rfl ?_
        refine DR.step (q_lrN rfl rfl rfl rfl rfl) rfl rfl ?_;refine DR.step (q_moveC rfl rfl rfl) rfl rfl ?_;refine DR.step (q_moveC rfl rfl rfl) rfl rfl ?_
        refine DR.step (q_at rfl rfl rfl rfl (by omega) (by assumption) rfl) rfl rfl ?_;refine DR.step (q_lrN rfl rfl rfl rfl rfl) rfl rfl ?_
        refine DR.step (q_call0 rfl rfl (hc) rfl) rfl rfl ?_;refine DR.step (q_not rfl rfl rfl) rfl rfl ?_;refine DR.stop (by kernel_rfl) (by kernel_rfl) ?_
        refine L_nil (T_n ?_);refine A_ifF rfl ?_;refine A_skip (B_n (T_n (A_region ?_)));refine M0 (q_moveC rfl rfl rfl) rfl rfl ?_
        refine M0 (q_add rfl rfl rfl rfl (by omega)) rfl rfl ?_;refine M0 (q_assignC rfl rfl rfl) rfl rfl ?_;refine L_nil (T_n ?_)
        exact ⟨xs.length - (k + 1),by omega,(fun k : Nat => (⟨_,[(0,L xs),(1,L ys),(5,I k)],[]⟩ : St)) (k + 1),W_go [] (by decide) rfl (rfl) (.cons rfl (.cons rfl (.cons rfl (.nil)))),k + 1,by omega,eq_next h3 h4 hp_A he,rfl⟩
      · rw [decide_eq_false he] at hc
        refine A_skip (T_n (A_seq (A_block (A_seq ?_))))
        refine A_draw [[],[],[0,1],[0,1,2],[],[],[4,5],[4,5,6],[0,1,2,3,4,5,6,7],[0,1,2,3,4,5,6,7,8]] [[],[],[17,18],[17,18,19],[],[],[21,22],[21,22,23],[17,18,19,20,21,22,23,24],[17,18,19,20,21,22,23,24,25]] [[18,21,22,23,24],[17,21,22,23,24],[21,22,23,24],[21,22,23,24],[17,18,19,20,22],[17,18,19,20,21],[17,18,19,20],[17,18,19,20],[],[]] rfl ?_
        refine DR.step (q_moveC rfl rfl rfl) rfl rfl ?_;refine DR.step (q_moveC rfl rfl rfl) rfl rfl ?_;refine DR.step (q_at rfl rfl rfl rfl (by omega) (by assumption) rfl) rfl rfl ?_
        refine DR.step (q_lrN rfl rfl rfl rfl rfl) rfl rfl ?_;refine DR.step (q_moveC rfl rfl rfl) rfl rfl ?_;refine DR.step (q_moveC rfl rfl rfl) rfl rfl ?_
        refine DR.step (q_at rfl rfl rfl rfl (by omega) (by assumption) rfl) rfl rfl ?_;refine DR.step (q_lrN rfl rfl rfl rfl rfl) rfl rfl ?_
        refine DR.step (q_call0 rfl rfl (hc) rfl) rfl rfl ?_;refine DR.step (q_not rfl rfl rfl) rfl rfl ?_;refine DR.stop (by kernel_rfl) (by kernel_rfl) ?_
        refine L_nil (T_n ?_);refine A_ifT rfl ?_;refine A_seq (A_region ?_);refine M0 (q_assignC rfl rfl rfl) rfl rfl ?_;refine L_nil (T_n (A_ret (B_r ?_)))
        refine T_r (T_r (B_r (T_r (F_r ?_))))
        exact E_tmp rfl rfl (W_end [] (by decide) rfl rfl (B_eq (eq_ne h3 h4 he).symm))
    · have h3 : ¬ ((k : Int) < (els xs).length) := of_decide_eq_false h
      refine A_exit (T_x (T_x (B_xs (T_n (A_seq (A_region ?_))))));refine M0 (q_assignC rfl rfl rfl) rfl rfl ?_;refine L_nil (T_n ?_)
      refine A_ret (F_r ?_)
      exact E_tmp rfl rfl (W_end [] (by decide) rfl rfl (B_eq (eq_all (by omega) hl hp_A).symm))
  · have hb : decide (((els xs).length : Int) ≠ ((els ys).length : Int)) = true := by rw [hlx,hly]; simp; omega
    refine Con.of Tryz.func47 rfl Tryz.ntmps47 rfl (fun E => ?_)
    refine A_seq (A_region ?_);refine M0 (q_assignC rfl rfl rfl) rfl rfl ?_;refine L_nil (T_n (A_seq (A_seq (A_region ?_))))
    refine M0 (q_moveC rfl rfl rfl) rfl rfl ?_;refine M0 (q_len rfl rfl rfl) rfl rfl ?_;refine M0 (q_moveC rfl rfl rfl) rfl rfl ?_;refine M0 (q_len rfl rfl rfl) rfl rfl ?_
    refine M0 (q_neqK rfl rfl rfl rfl (by assumption)) rfl rfl ?_;refine L_nil (T_n ?_);refine A_ifT rfl ?_;refine A_seq (A_region ?_)
    refine M0 (q_assignC rfl rfl rfl) rfl rfl ?_;refine L_nil (T_n (A_ret (T_r (F_r ?_))))
    exact E_tmp rfl rfl (W_end [] (by decide) rfl rfl (B_eq (eq_len hl).symm))
set_option maxHeartbeats 2000000 in
theorem sz_Wire (x : TWire) (left : Int) (hg : Enc.gd x) (h0 : 0 ≤ left) (h1 : left ≤ 1048576) : Con Tryz.prog 55 [] [ag x,ai left] [] (I (szr (Enc.wt x) left)) := by
  obtain ⟨g_Seed,g_Delay,g_Jitter,g_Loss,g_Copies,g_Damage,g_Now,g_Flights,g_Sent,g_Lost⟩ := hg
  have hw : Enc.wt x = Enc.wt x.Flights := rfl
  have hm1 : decide ((-1 : Int) < 0) = true := rfl
  have hc_Flights := sz_FlightS x.Flights (left) g_Flights (by omega) (by omega)
  by_cases n_Flights : left < Enc.wt x.Flights
  · rw [szr_neg n_Flights] at hc_Flights
    refine Con.of Tryz.func55 rfl Tryz.ntmps55 rfl (fun E => ?_)
    refine A_seq (A_region ?_);refine M1 (q_boxN rfl rfl rfl rfl) rfl rfl ?_;refine M0 (q_assignC rfl rfl rfl) rfl rfl ?_;refine L_nil (T_n (A_seq ?_))
    refine A_region ?_;refine M0 (q_fldp rfl rfl rfl rfl (by decide)) rfl rfl ?_;refine M0 (q_ld1 rfl rfl rfl rfl rfl) rfl rfl ?_;refine M0 (q_moveC rfl rfl rfl) rfl rfl ?_
    refine M0 (q_call0 rfl rfl (hc_Flights) rfl) rfl rfl ?_;refine M0 (q_assignC rfl rfl rfl) rfl rfl ?_;refine L_nil (T_n (A_seq (A_seq (A_region ?_))))
    refine M0 (q_moveC rfl rfl rfl) rfl rfl ?_;refine M0 (q_lssK rfl rfl rfl rfl (by assumption)) rfl rfl ?_;refine L_nil (T_n ?_);refine A_ifT rfl ?_;refine A_seq ?_
    refine A_region ?_;refine M0 (q_assignC rfl rfl rfl) rfl rfl ?_;refine L_nil (T_n (A_ret (T_r (F_r ?_))))
    exact E_tmp rfl rfl (W_end [] (by decide) rfl rfl (I_eq (by rw [szr_neg (by omega)])))
  rw [szr_pos (by omega)] at hc_Flights
  have hb_Flights : decide (left - Enc.wt x.Flights < 0) = false := decide_eq_false (by omega)
  refine Con.of Tryz.func55 rfl Tryz.ntmps55 rfl (fun E => ?_)
  refine A_seq (A_region ?_);refine M1 (q_boxN rfl rfl rfl rfl) rfl rfl ?_;refine M0 (q_assignC rfl rfl rfl) rfl rfl ?_;refine L_nil (T_n (A_seq ?_))
  refine A_region ?_;refine M0 (q_fldp rfl rfl rfl rfl (by decide)) rfl rfl ?_;refine M0 (q_ld1 rfl rfl rfl rfl rfl) rfl rfl ?_;refine M0 (q_moveC rfl rfl rfl) rfl rfl ?_
  refine M0 (q_call0 rfl rfl (hc_Flights) rfl) rfl rfl ?_;refine M0 (q_assignC rfl rfl rfl) rfl rfl ?_;refine L_nil (T_n (A_seq (A_seq (A_region ?_))))
  refine M0 (q_moveC rfl rfl rfl) rfl rfl ?_;refine M0 (q_lssK rfl rfl rfl rfl (by assumption)) rfl rfl ?_;refine L_nil (T_n ?_);refine A_ifF rfl ?_;refine A_skip (T_n ?_)
  refine A_seq (A_region ?_);refine M0 (q_moveC rfl rfl rfl) rfl rfl ?_;refine M0 (q_assignC rfl rfl rfl) rfl rfl ?_;refine L_nil (T_n (A_ret (F_r ?_)))
  exact E_tmp rfl rfl (W_end [] (by decide) rfl rfl (I_eq (by rw [szr_pos (by omega)]; omega)))
set_option maxHeartbeats 2000000 in
theorem to_Wire (x : TWire) (hg : Enc.wt x ≤ 1048576) : Con Tryz.prog 69 [] [ag x] (ownO (Enc.e x)) (.o (.ag (ownV 0 (Enc.e x)))) := by
  have hw : Enc.wt x = Enc.wt x.Flights := rfl
  refine Con.of Tryz.func69 rfl Tryz.ntmps69 rfl (fun E => ?_)
  refine A_seq (A_region ?_);refine M1 (q_boxN rfl rfl rfl rfl) rfl rfl ?_;refine M1 (q_alloc rfl rfl rfl) rfl rfl ?_;refine L_nil (T_n (A_seq ?_))
  refine A_region ?_;refine M1 (q_alloc rfl rfl rfl) rfl rfl ?_;refine L_nil (T_n (A_seq (A_region ?_)));refine M0 (q_fldp rfl rfl rfl rfl (by decide)) rfl rfl ?_
  refine M0 (q_ld1 rfl rfl rfl rfl rfl) rfl rfl ?_;refine M0 (q_fldp rfl rfl rfl rfl (by decide)) rfl rfl ?_;refine M_st1 rfl rfl rfl rfl rfl rfl rfl rfl ?_;refine L_nil (T_n ?_)
  refine A_seq (A_region ?_);refine M0 (q_fldp rfl rfl rfl rfl (by decide)) rfl rfl ?_;refine M0 (q_ld1 rfl rfl rfl rfl rfl) rfl rfl ?_
  refine M0 (q_fldp rfl rfl rfl rfl (by decide)) rfl rfl ?_;refine M_st1 rfl rfl rfl rfl rfl rfl rfl rfl ?_;refine L_nil (T_n (A_seq (A_region ?_)))
  refine M0 (q_fldp rfl rfl rfl rfl (by decide)) rfl rfl ?_;refine M0 (q_ld1 rfl rfl rfl rfl rfl) rfl rfl ?_;refine M0 (q_fldp rfl rfl rfl rfl (by decide)) rfl rfl ?_
  refine M_st1 rfl rfl rfl rfl rfl rfl rfl rfl ?_;refine L_nil (T_n (A_seq (A_region ?_)));refine M0 (q_fldp rfl rfl rfl rfl (by decide)) rfl rfl ?_
  refine M0 (q_ld1 rfl rfl rfl rfl rfl) rfl rfl ?_;refine M0 (q_fldp rfl rfl rfl rfl (by decide)) rfl rfl ?_;refine M_st1 rfl rfl rfl rfl rfl rfl rfl rfl ?_;refine L_nil (T_n ?_)
  refine A_seq (A_region ?_);refine M0 (q_fldp rfl rfl rfl rfl (by decide)) rfl rfl ?_;refine M0 (q_ld1 rfl rfl rfl rfl rfl) rfl rfl ?_
  refine M0 (q_fldp rfl rfl rfl rfl (by decide)) rfl rfl ?_;refine M_st1 rfl rfl rfl rfl rfl rfl rfl rfl ?_;refine L_nil (T_n (A_seq (A_region ?_)))
  refine M0 (q_fldp rfl rfl rfl rfl (by decide)) rfl rfl ?_;refine M0 (q_ld1 rfl rfl rfl rfl rfl) rfl rfl ?_;refine M0 (q_fldp rfl rfl rfl rfl (by decide)) rfl rfl ?_
  refine M_st1 rfl rfl rfl rfl rfl rfl rfl rfl ?_;refine L_nil (T_n (A_seq (A_region ?_)));refine M0 (q_fldp rfl rfl rfl rfl (by decide)) rfl rfl ?_
  refine M0 (q_ld1 rfl rfl rfl rfl rfl) rfl rfl ?_;refine M0 (q_fldp rfl rfl rfl rfl (by decide)) rfl rfl ?_;refine M_st1 rfl rfl rfl rfl rfl rfl rfl rfl ?_;refine L_nil (T_n ?_)
  refine A_seq (A_region ?_);refine M0 (q_fldp rfl rfl rfl rfl (by decide)) rfl rfl ?_;refine M0 (q_ld1 rfl rfl rfl rfl rfl) rfl rfl ?_
  refine M1 (q_call rfl rfl (to_FlightS x.Flights (by omega)) rfl rfl rfl) rfl rfl ?_;refine M0 (q_fldp rfl rfl rfl rfl (by decide)) rfl rfl ?_
  refine M_st1 rfl rfl rfl rfl rfl rfl rfl rfl ?_;refine L_nil (T_n (A_seq (A_region ?_)));refine M0 (q_fldp rfl rfl rfl rfl (by decide)) rfl rfl ?_
  refine M0 (q_ld1 rfl rfl rfl rfl rfl) rfl rfl ?_;refine M0 (q_fldp rfl rfl rfl rfl (by decide)) rfl rfl ?_;refine M_st1 rfl rfl rfl rfl rfl rfl rfl rfl ?_;refine L_nil (T_n ?_)
  refine A_seq (A_region ?_);refine M0 (q_fldp rfl rfl rfl rfl (by decide)) rfl rfl ?_;refine M0 (q_ld1 rfl rfl rfl rfl rfl) rfl rfl ?_
  refine M0 (q_fldp rfl rfl rfl rfl (by decide)) rfl rfl ?_;refine M_st1 rfl rfl rfl rfl rfl rfl rfl rfl ?_;refine L_nil (T_n (A_seq (A_region ?_)))
  refine M0 (q_ldN rfl rfl rfl rfl rfl rfl) rfl rfl ?_;refine M_stN rfl rfl rfl rfl rfl rfl rfl rfl rfl ?_;refine L_nil (T_n (A_ret (F_r ?_)))
  exact E_cell rfl rfl rfl rfl (W_end [3] (by decide) rfl rfl rfl)
set_option maxHeartbeats 2000000 in
theorem eq_Wire (x y : TWire) (hg : Enc.gd x) : Con Tryz.prog 82 [] [ag x,ag y] [] (B (decide (x = y))) := by
  obtain ⟨g_Seed,g_Delay,g_Jitter,g_Loss,g_Copies,g_Damage,g_Now,g_Flights,g_Sent,g_Lost⟩ := hg
  by_cases e_Seed : ¬ x.Seed = y.Seed
  · have hk : decide (x.Seed ≠ y.Seed) = true := by simp [e_Seed]
    refine Con.of Tryz.func82 rfl Tryz.ntmps82 rfl (fun E => ?_)
    refine A_seq (A_region ?_);refine M1 (q_boxN rfl rfl rfl rfl) rfl rfl ?_;refine M1 (q_boxN rfl rfl rfl rfl) rfl rfl ?_;refine M0 (q_assignC rfl rfl rfl) rfl rfl ?_
    refine L_nil (T_n (A_seq (A_seq (A_region ?_))));refine M0 (q_fldp rfl rfl rfl rfl (by decide)) rfl rfl ?_
    refine M0 (q_ld1 rfl rfl rfl rfl rfl) rfl rfl ?_;refine M0 (q_fldp rfl rfl rfl rfl (by decide)) rfl rfl ?_;refine M0 (q_ld1 rfl rfl rfl rfl rfl) rfl rfl ?_
    refine M0 (q_neqK rfl rfl rfl rfl (by assumption)) rfl rfl ?_;refine L_nil (T_n ?_);refine A_ifT rfl ?_;refine A_seq (A_region ?_)
    refine M0 (q_assignC rfl rfl rfl) rfl rfl ?_;refine L_nil (T_n (A_ret (T_r (F_r ?_))))
    exact E_tmp rfl rfl (W_end [] (by decide) rfl rfl (B_eq (decide_eq_false fun e => e_Seed (by rw [e])).symm))
  have e_Seed := Classical.not_not.1 e_Seed
  have k_Seed : decide (x.Seed ≠ y.Seed) = false := by simp [e_Seed]
  by_cases e_Delay : ¬ x.Delay = y.Delay
  · have hk : decide (x.Delay ≠ y.Delay) = true := by simp [e_Delay]
    refine Con.of Tryz.func82 rfl Tryz.ntmps82 rfl (fun E => ?_)
    refine A_seq (A_region ?_);refine M1 (q_boxN rfl rfl rfl rfl) rfl rfl ?_;refine M1 (q_boxN rfl rfl rfl rfl) rfl rfl ?_;refine M0 (q_assignC rfl rfl rfl) rfl rfl ?_
    refine L_nil (T_n (A_seq (A_seq (A_region ?_))));refine M0 (q_fldp rfl rfl rfl rfl (by decide)) rfl rfl ?_
    refine M0 (q_ld1 rfl rfl rfl rfl rfl) rfl rfl ?_;refine M0 (q_fldp rfl rfl rfl rfl (by decide)) rfl rfl ?_;refine M0 (q_ld1 rfl rfl rfl rfl rfl) rfl rfl ?_
    refine M0 (q_neqK rfl rfl rfl rfl (by assumption)) rfl rfl ?_;refine L_nil (T_n ?_);refine A_ifF rfl ?_;refine A_skip (T_n (A_seq (A_seq ?_)))
    refine A_region ?_;refine M0 (q_fldp rfl rfl rfl rfl (by decide)) rfl rfl ?_;refine M0 (q_ld1 rfl rfl rfl rfl rfl) rfl rfl ?_;refine M0 (q_fldp rfl rfl rfl rfl (by decide)) rfl rfl ?_
    refine M0 (q_ld1 rfl rfl rfl rfl rfl) rfl rfl ?_;refine M0 (q_neqK rfl rfl rfl rfl (by assumption)) rfl rfl ?_;refine L_nil (T_n ?_);refine A_ifT rfl ?_;refine A_seq ?_
    refine A_region ?_;refine M0 (q_assignC rfl rfl rfl) rfl rfl ?_;refine L_nil (T_n (A_ret (T_r (F_r ?_))))
    exact E_tmp rfl rfl (W_end [] (by decide) rfl rfl (B_eq (decide_eq_false fun e => e_Delay (by rw [e])).symm))
  have e_Delay := Classical.not_not.1 e_Delay
  have k_Delay : decide (x.Delay ≠ y.Delay) = false := by simp [e_Delay]
  by_cases e_Jitter : ¬ x.Jitter = y.Jitter
  · have hk : decide (x.Jitter ≠ y.Jitter) = true := by simp [e_Jitter]
    refine Con.of Tryz.func82 rfl Tryz.ntmps82 rfl (fun E => ?_)
    refine A_seq (A_region ?_);refine M1 (q_boxN rfl rfl rfl rfl) rfl rfl ?_;refine M1 (q_boxN rfl rfl rfl rfl) rfl rfl ?_;refine M0 (q_assignC rfl rfl rfl) rfl rfl ?_
    refine L_nil (T_n (A_seq (A_seq (A_region ?_))));refine M0 (q_fldp rfl rfl rfl rfl (by decide)) rfl rfl ?_
    refine M0 (q_ld1 rfl rfl rfl rfl rfl) rfl rfl ?_;refine M0 (q_fldp rfl rfl rfl rfl (by decide)) rfl rfl ?_;refine M0 (q_ld1 rfl rfl rfl rfl rfl) rfl rfl ?_
    refine M0 (q_neqK rfl rfl rfl rfl (by assumption)) rfl rfl ?_;refine L_nil (T_n ?_);refine A_ifF rfl ?_;refine A_skip (T_n (A_seq (A_seq ?_)))
    refine A_region ?_;refine M0 (q_fldp rfl rfl rfl rfl (by decide)) rfl rfl ?_;refine M0 (q_ld1 rfl rfl rfl rfl rfl) rfl rfl ?_;refine M0 (q_fldp rfl rfl rfl rfl (by decide)) rfl rfl ?_
    refine M0 (q_ld1 rfl rfl rfl rfl rfl) rfl rfl ?_;refine M0 (q_neqK rfl rfl rfl rfl (by assumption)) rfl rfl ?_;refine L_nil (T_n ?_);refine A_ifF rfl ?_;refine A_skip ?_
    refine T_n (A_seq (A_seq (A_region ?_)));refine M0 (q_fldp rfl rfl rfl rfl (by decide)) rfl rfl ?_;refine M0 (q_ld1 rfl rfl rfl rfl rfl) rfl rfl ?_
    refine M0 (q_fldp rfl rfl rfl rfl (by decide)) rfl rfl ?_;refine M0 (q_ld1 rfl rfl rfl rfl rfl) rfl rfl ?_;refine M0 (q_neqK rfl rfl rfl rfl (by assumption)) rfl rfl ?_
    refine L_nil (T_n ?_);refine A_ifT rfl ?_;refine A_seq (A_region ?_);refine M0 (q_assignC rfl rfl rfl) rfl rfl ?_;refine L_nil (T_n (A_ret (T_r ?_)))
    refine F_r ?_
    exact E_tmp rfl rfl (W_end [] (by decide) rfl rfl (B_eq (decide_eq_false fun e => e_Jitter (by rw [e])).symm))
  have e_Jitter := Classical.not_not.1 e_Jitter
  have k_Jitter : decide (x.Jitter ≠ y.Jitter) = false := by simp [e_Jitter]
  by_cases e_Loss : ¬ x.Loss = y.Loss
  · have hk : decide (x.Loss ≠ y.Loss) = true := by simp [e_Loss]
    refine Con.of Tryz.func82 rfl Tryz.ntmps82 rfl (fun E => ?_)
    refine A_seq (A_region ?_);refine M1 (q_boxN rfl rfl rfl rfl) rfl rfl ?_;refine M1 (q_boxN rfl rfl rfl rfl) rfl rfl ?_;refine M0 (q_assignC rfl rfl rfl) rfl rfl ?_
    refine L_nil (T_n (A_seq (A_seq (A_region ?_))));refine M0 (q_fldp rfl rfl rfl rfl (by decide)) rfl rfl ?_
    refine M0 (q_ld1 rfl rfl rfl rfl rfl) rfl rfl ?_;refine M0 (q_fldp rfl rfl rfl rfl (by decide)) rfl rfl ?_;refine M0 (q_ld1 rfl rfl rfl rfl rfl) rfl rfl ?_
    refine M0 (q_neqK rfl rfl rfl rfl (by assumption)) rfl rfl ?_;refine L_nil (T_n ?_);refine A_ifF rfl ?_;refine A_skip (T_n (A_seq (A_seq ?_)))
    refine A_region ?_;refine M0 (q_fldp rfl rfl rfl rfl (by decide)) rfl rfl ?_;refine M0 (q_ld1 rfl rfl rfl rfl rfl) rfl rfl ?_;refine M0 (q_fldp rfl rfl rfl rfl (by decide)) rfl rfl ?_
    refine M0 (q_ld1 rfl rfl rfl rfl rfl) rfl rfl ?_;refine M0 (q_neqK rfl rfl rfl rfl (by assumption)) rfl rfl ?_;refine L_nil (T_n ?_);refine A_ifF rfl ?_;refine A_skip ?_
    refine T_n (A_seq (A_seq (A_region ?_)));refine M0 (q_fldp rfl rfl rfl rfl (by decide)) rfl rfl ?_;refine M0 (q_ld1 rfl rfl rfl rfl rfl) rfl rfl ?_
    refine M0 (q_fldp rfl rfl rfl rfl (by decide)) rfl rfl ?_;refine M0 (q_ld1 rfl rfl rfl rfl rfl) rfl rfl ?_;refine M0 (q_neqK rfl rfl rfl rfl (by assumption)) rfl rfl ?_
    refine L_nil (T_n ?_);refine A_ifF rfl ?_;refine A_skip (T_n (A_seq (A_seq (A_region ?_))))
    refine M0 (q_fldp rfl rfl rfl rfl (by decide)) rfl rfl ?_;refine M0 (q_ld1 rfl rfl rfl rfl rfl) rfl rfl ?_;refine M0 (q_fldp rfl rfl rfl rfl (by decide)) rfl rfl ?_
    refine M0 (q_ld1 rfl rfl rfl rfl rfl) rfl rfl ?_;refine M0 (q_neqK rfl rfl rfl rfl (by assumption)) rfl rfl ?_;refine L_nil (T_n ?_);refine A_ifT rfl ?_;refine A_seq ?_
    refine A_region ?_;refine M0 (q_assignC rfl rfl rfl) rfl rfl ?_;refine L_nil (T_n (A_ret (T_r (F_r ?_))))
    exact E_tmp rfl rfl (W_end [] (by decide) rfl rfl (B_eq (decide_eq_false fun e => e_Loss (by rw [e])).symm))
  have e_Loss := Classical.not_not.1 e_Loss
  have k_Loss : decide (x.Loss ≠ y.Loss) = false := by simp [e_Loss]
  by_cases e_Copies : ¬ x.Copies = y.Copies
  · have hk : decide (x.Copies ≠ y.Copies) = true := by simp [e_Copies]
    refine Con.of Tryz.func82 rfl Tryz.ntmps82 rfl (fun E => ?_)
    refine A_seq (A_region ?_);refine M1 (q_boxN rfl rfl rfl rfl) rfl rfl ?_;refine M1 (q_boxN rfl rfl rfl rfl) rfl rfl ?_;refine M0 (q_assignC rfl rfl rfl) rfl rfl ?_
    refine L_nil (T_n (A_seq (A_seq (A_region ?_))));refine M0 (q_fldp rfl rfl rfl rfl (by decide)) rfl rfl ?_
    refine M0 (q_ld1 rfl rfl rfl rfl rfl) rfl rfl ?_;refine M0 (q_fldp rfl rfl rfl rfl (by decide)) rfl rfl ?_;refine M0 (q_ld1 rfl rfl rfl rfl rfl) rfl rfl ?_
    refine M0 (q_neqK rfl rfl rfl rfl (by assumption)) rfl rfl ?_;refine L_nil (T_n ?_);refine A_ifF rfl ?_;refine A_skip (T_n (A_seq (A_seq ?_)))
    refine A_region ?_;refine M0 (q_fldp rfl rfl rfl rfl (by decide)) rfl rfl ?_;refine M0 (q_ld1 rfl rfl rfl rfl rfl) rfl rfl ?_;refine M0 (q_fldp rfl rfl rfl rfl (by decide)) rfl rfl ?_
    refine M0 (q_ld1 rfl rfl rfl rfl rfl) rfl rfl ?_;refine M0 (q_neqK rfl rfl rfl rfl (by assumption)) rfl rfl ?_;refine L_nil (T_n ?_);refine A_ifF rfl ?_;refine A_skip ?_
    refine T_n (A_seq (A_seq (A_region ?_)));refine M0 (q_fldp rfl rfl rfl rfl (by decide)) rfl rfl ?_;refine M0 (q_ld1 rfl rfl rfl rfl rfl) rfl rfl ?_
    refine M0 (q_fldp rfl rfl rfl rfl (by decide)) rfl rfl ?_;refine M0 (q_ld1 rfl rfl rfl rfl rfl) rfl rfl ?_;refine M0 (q_neqK rfl rfl rfl rfl (by assumption)) rfl rfl ?_
    refine L_nil (T_n ?_);refine A_ifF rfl ?_;refine A_skip (T_n (A_seq (A_seq (A_region ?_))))
    refine M0 (q_fldp rfl rfl rfl rfl (by decide)) rfl rfl ?_;refine M0 (q_ld1 rfl rfl rfl rfl rfl) rfl rfl ?_;refine M0 (q_fldp rfl rfl rfl rfl (by decide)) rfl rfl ?_
    refine M0 (q_ld1 rfl rfl rfl rfl rfl) rfl rfl ?_;refine M0 (q_neqK rfl rfl rfl rfl (by assumption)) rfl rfl ?_;refine L_nil (T_n ?_);refine A_ifF rfl ?_;refine A_skip ?_
    refine T_n (A_seq (A_seq (A_region ?_)));refine M0 (q_fldp rfl rfl rfl rfl (by decide)) rfl rfl ?_;refine M0 (q_ld1 rfl rfl rfl rfl rfl) rfl rfl ?_
    refine M0 (q_fldp rfl rfl rfl rfl (by decide)) rfl rfl ?_;refine M0 (q_ld1 rfl rfl rfl rfl rfl) rfl rfl ?_;refine M0 (q_neqK rfl rfl rfl rfl (by assumption)) rfl rfl ?_
    refine L_nil (T_n ?_);refine A_ifT rfl ?_;refine A_seq (A_region ?_);refine M0 (q_assignC rfl rfl rfl) rfl rfl ?_;refine L_nil (T_n (A_ret (T_r ?_)))
    refine F_r ?_
    exact E_tmp rfl rfl (W_end [] (by decide) rfl rfl (B_eq (decide_eq_false fun e => e_Copies (by rw [e])).symm))
  have e_Copies := Classical.not_not.1 e_Copies
  have k_Copies : decide (x.Copies ≠ y.Copies) = false := by simp [e_Copies]
  by_cases e_Damage : ¬ x.Damage = y.Damage
  · have hk : decide (x.Damage ≠ y.Damage) = true := by simp [e_Damage]
    refine Con.of Tryz.func82 rfl Tryz.ntmps82 rfl (fun E => ?_)
    refine A_seq (A_region ?_);refine M1 (q_boxN rfl rfl rfl rfl) rfl rfl ?_;refine M1 (q_boxN rfl rfl rfl rfl) rfl rfl ?_;refine M0 (q_assignC rfl rfl rfl) rfl rfl ?_
    refine L_nil (T_n (A_seq (A_seq (A_region ?_))));refine M0 (q_fldp rfl rfl rfl rfl (by decide)) rfl rfl ?_
    refine M0 (q_ld1 rfl rfl rfl rfl rfl) rfl rfl ?_;refine M0 (q_fldp rfl rfl rfl rfl (by decide)) rfl rfl ?_;refine M0 (q_ld1 rfl rfl rfl rfl rfl) rfl rfl ?_
    refine M0 (q_neqK rfl rfl rfl rfl (by assumption)) rfl rfl ?_;refine L_nil (T_n ?_);refine A_ifF rfl ?_;refine A_skip (T_n (A_seq (A_seq ?_)))
    refine A_region ?_;refine M0 (q_fldp rfl rfl rfl rfl (by decide)) rfl rfl ?_;refine M0 (q_ld1 rfl rfl rfl rfl rfl) rfl rfl ?_;refine M0 (q_fldp rfl rfl rfl rfl (by decide)) rfl rfl ?_
    refine M0 (q_ld1 rfl rfl rfl rfl rfl) rfl rfl ?_;refine M0 (q_neqK rfl rfl rfl rfl (by assumption)) rfl rfl ?_;refine L_nil (T_n ?_);refine A_ifF rfl ?_;refine A_skip ?_
    refine T_n (A_seq (A_seq (A_region ?_)));refine M0 (q_fldp rfl rfl rfl rfl (by decide)) rfl rfl ?_;refine M0 (q_ld1 rfl rfl rfl rfl rfl) rfl rfl ?_
    refine M0 (q_fldp rfl rfl rfl rfl (by decide)) rfl rfl ?_;refine M0 (q_ld1 rfl rfl rfl rfl rfl) rfl rfl ?_;refine M0 (q_neqK rfl rfl rfl rfl (by assumption)) rfl rfl ?_
    refine L_nil (T_n ?_);refine A_ifF rfl ?_;refine A_skip (T_n (A_seq (A_seq (A_region ?_))))
    refine M0 (q_fldp rfl rfl rfl rfl (by decide)) rfl rfl ?_;refine M0 (q_ld1 rfl rfl rfl rfl rfl) rfl rfl ?_;refine M0 (q_fldp rfl rfl rfl rfl (by decide)) rfl rfl ?_
    refine M0 (q_ld1 rfl rfl rfl rfl rfl) rfl rfl ?_;refine M0 (q_neqK rfl rfl rfl rfl (by assumption)) rfl rfl ?_;refine L_nil (T_n ?_);refine A_ifF rfl ?_;refine A_skip ?_
    refine T_n (A_seq (A_seq (A_region ?_)));refine M0 (q_fldp rfl rfl rfl rfl (by decide)) rfl rfl ?_;refine M0 (q_ld1 rfl rfl rfl rfl rfl) rfl rfl ?_
    refine M0 (q_fldp rfl rfl rfl rfl (by decide)) rfl rfl ?_;refine M0 (q_ld1 rfl rfl rfl rfl rfl) rfl rfl ?_;refine M0 (q_neqK rfl rfl rfl rfl (by assumption)) rfl rfl ?_
    refine L_nil (T_n ?_);refine A_ifF rfl ?_;refine A_skip (T_n (A_seq (A_seq (A_region ?_))))
    refine M0 (q_fldp rfl rfl rfl rfl (by decide)) rfl rfl ?_;refine M0 (q_ld1 rfl rfl rfl rfl rfl) rfl rfl ?_;refine M0 (q_fldp rfl rfl rfl rfl (by decide)) rfl rfl ?_
    refine M0 (q_ld1 rfl rfl rfl rfl rfl) rfl rfl ?_;refine M0 (q_neqK rfl rfl rfl rfl (by assumption)) rfl rfl ?_;refine L_nil (T_n ?_);refine A_ifT rfl ?_;refine A_seq ?_
    refine A_region ?_;refine M0 (q_assignC rfl rfl rfl) rfl rfl ?_;refine L_nil (T_n (A_ret (T_r (F_r ?_))))
    exact E_tmp rfl rfl (W_end [] (by decide) rfl rfl (B_eq (decide_eq_false fun e => e_Damage (by rw [e])).symm))
  have e_Damage := Classical.not_not.1 e_Damage
  have k_Damage : decide (x.Damage ≠ y.Damage) = false := by simp [e_Damage]
  by_cases e_Now : ¬ x.Now = y.Now
  · have hk : decide (x.Now ≠ y.Now) = true := by simp [e_Now]
    refine Con.of Tryz.func82 rfl Tryz.ntmps82 rfl (fun E => ?_)
    refine A_seq (A_region ?_);refine M1 (q_boxN rfl rfl rfl rfl) rfl rfl ?_;refine M1 (q_boxN rfl rfl rfl rfl) rfl rfl ?_;refine M0 (q_assignC rfl rfl rfl) rfl rfl ?_
    refine L_nil (T_n (A_seq (A_seq (A_region ?_))));refine M0 (q_fldp rfl rfl rfl rfl (by decide)) rfl rfl ?_
    refine M0 (q_ld1 rfl rfl rfl rfl rfl) rfl rfl ?_;refine M0 (q_fldp rfl rfl rfl rfl (by decide)) rfl rfl ?_;refine M0 (q_ld1 rfl rfl rfl rfl rfl) rfl rfl ?_
    refine M0 (q_neqK rfl rfl rfl rfl (by assumption)) rfl rfl ?_;refine L_nil (T_n ?_);refine A_ifF rfl ?_;refine A_skip (T_n (A_seq (A_seq ?_)))
    refine A_region ?_;refine M0 (q_fldp rfl rfl rfl rfl (by decide)) rfl rfl ?_;refine M0 (q_ld1 rfl rfl rfl rfl rfl) rfl rfl ?_;refine M0 (q_fldp rfl rfl rfl rfl (by decide)) rfl rfl ?_
    refine M0 (q_ld1 rfl rfl rfl rfl rfl) rfl rfl ?_;refine M0 (q_neqK rfl rfl rfl rfl (by assumption)) rfl rfl ?_;refine L_nil (T_n ?_);refine A_ifF rfl ?_;refine A_skip ?_
    refine T_n (A_seq (A_seq (A_region ?_)));refine M0 (q_fldp rfl rfl rfl rfl (by decide)) rfl rfl ?_;refine M0 (q_ld1 rfl rfl rfl rfl rfl) rfl rfl ?_
    refine M0 (q_fldp rfl rfl rfl rfl (by decide)) rfl rfl ?_;refine M0 (q_ld1 rfl rfl rfl rfl rfl) rfl rfl ?_;refine M0 (q_neqK rfl rfl rfl rfl (by assumption)) rfl rfl ?_
    refine L_nil (T_n ?_);refine A_ifF rfl ?_;refine A_skip (T_n (A_seq (A_seq (A_region ?_))))
    refine M0 (q_fldp rfl rfl rfl rfl (by decide)) rfl rfl ?_;refine M0 (q_ld1 rfl rfl rfl rfl rfl) rfl rfl ?_;refine M0 (q_fldp rfl rfl rfl rfl (by decide)) rfl rfl ?_
    refine M0 (q_ld1 rfl rfl rfl rfl rfl) rfl rfl ?_;refine M0 (q_neqK rfl rfl rfl rfl (by assumption)) rfl rfl ?_;refine L_nil (T_n ?_);refine A_ifF rfl ?_;refine A_skip ?_
    refine T_n (A_seq (A_seq (A_region ?_)));refine M0 (q_fldp rfl rfl rfl rfl (by decide)) rfl rfl ?_;refine M0 (q_ld1 rfl rfl rfl rfl rfl) rfl rfl ?_
    refine M0 (q_fldp rfl rfl rfl rfl (by decide)) rfl rfl ?_;refine M0 (q_ld1 rfl rfl rfl rfl rfl) rfl rfl ?_;refine M0 (q_neqK rfl rfl rfl rfl (by assumption)) rfl rfl ?_
    refine L_nil (T_n ?_);refine A_ifF rfl ?_;refine A_skip (T_n (A_seq (A_seq (A_region ?_))))
    refine M0 (q_fldp rfl rfl rfl rfl (by decide)) rfl rfl ?_;refine M0 (q_ld1 rfl rfl rfl rfl rfl) rfl rfl ?_;refine M0 (q_fldp rfl rfl rfl rfl (by decide)) rfl rfl ?_
    refine M0 (q_ld1 rfl rfl rfl rfl rfl) rfl rfl ?_;refine M0 (q_neqK rfl rfl rfl rfl (by assumption)) rfl rfl ?_;refine L_nil (T_n ?_);refine A_ifF rfl ?_;refine A_skip ?_
    refine T_n (A_seq (A_seq (A_region ?_)));refine M0 (q_fldp rfl rfl rfl rfl (by decide)) rfl rfl ?_;refine M0 (q_ld1 rfl rfl rfl rfl rfl) rfl rfl ?_
    refine M0 (q_fldp rfl rfl rfl rfl (by decide)) rfl rfl ?_;refine M0 (q_ld1 rfl rfl rfl rfl rfl) rfl rfl ?_;refine M0 (q_neqK rfl rfl rfl rfl (by assumption)) rfl rfl ?_
    refine L_nil (T_n ?_);refine A_ifT rfl ?_;refine A_seq (A_region ?_);refine M0 (q_assignC rfl rfl rfl) rfl rfl ?_;refine L_nil (T_n (A_ret (T_r ?_)))
    refine F_r ?_
    exact E_tmp rfl rfl (W_end [] (by decide) rfl rfl (B_eq (decide_eq_false fun e => e_Now (by rw [e])).symm))
  have e_Now := Classical.not_not.1 e_Now
  have k_Now : decide (x.Now ≠ y.Now) = false := by simp [e_Now]
  by_cases e_Flights : ¬ x.Flights = y.Flights
  · have hc := eq_FlightS x.Flights y.Flights g_Flights
    rw [decide_eq_false e_Flights] at hc
    refine Con.of Tryz.func82 rfl Tryz.ntmps82 rfl (fun E => ?_)
    refine A_seq (A_region ?_);refine M1 (q_boxN rfl rfl rfl rfl) rfl rfl ?_;refine M1 (q_boxN rfl rfl rfl rfl) rfl rfl ?_;refine M0 (q_assignC rfl rfl rfl) rfl rfl ?_
    refine L_nil (T_n (A_seq (A_seq (A_region ?_))));refine M0 (q_fldp rfl rfl rfl rfl (by decide)) rfl rfl ?_
    refine M0 (q_ld1 rfl rfl rfl rfl rfl) rfl rfl ?_;refine M0 (q_fldp rfl rfl rfl rfl (by decide)) rfl rfl ?_;refine M0 (q_ld1 rfl rfl rfl rfl rfl) rfl rfl ?_
    refine M0 (q_neqK rfl rfl rfl rfl (by assumption)) rfl rfl ?_;refine L_nil (T_n ?_);refine A_ifF rfl ?_;refine A_skip (T_n (A_seq (A_seq ?_)))
    refine A_region ?_;refine M0 (q_fldp rfl rfl rfl rfl (by decide)) rfl rfl ?_;refine M0 (q_ld1 rfl rfl rfl rfl rfl) rfl rfl ?_;refine M0 (q_fldp rfl rfl rfl rfl (by decide)) rfl rfl ?_
    refine M0 (q_ld1 rfl rfl rfl rfl rfl) rfl rfl ?_;refine M0 (q_neqK rfl rfl rfl rfl (by assumption)) rfl rfl ?_;refine L_nil (T_n ?_);refine A_ifF rfl ?_;refine A_skip ?_
    refine T_n (A_seq (A_seq (A_region ?_)));refine M0 (q_fldp rfl rfl rfl rfl (by decide)) rfl rfl ?_;refine M0 (q_ld1 rfl rfl rfl rfl rfl) rfl rfl ?_
    refine M0 (q_fldp rfl rfl rfl rfl (by decide)) rfl rfl ?_;refine M0 (q_ld1 rfl rfl rfl rfl rfl) rfl rfl ?_;refine M0 (q_neqK rfl rfl rfl rfl (by assumption)) rfl rfl ?_
    refine L_nil (T_n ?_);refine A_ifF rfl ?_;refine A_skip (T_n (A_seq (A_seq (A_region ?_))))
    refine M0 (q_fldp rfl rfl rfl rfl (by decide)) rfl rfl ?_;refine M0 (q_ld1 rfl rfl rfl rfl rfl) rfl rfl ?_;refine M0 (q_fldp rfl rfl rfl rfl (by decide)) rfl rfl ?_
    refine M0 (q_ld1 rfl rfl rfl rfl rfl) rfl rfl ?_;refine M0 (q_neqK rfl rfl rfl rfl (by assumption)) rfl rfl ?_;refine L_nil (T_n ?_);refine A_ifF rfl ?_;refine A_skip ?_
    refine T_n (A_seq (A_seq (A_region ?_)));refine M0 (q_fldp rfl rfl rfl rfl (by decide)) rfl rfl ?_;refine M0 (q_ld1 rfl rfl rfl rfl rfl) rfl rfl ?_
    refine M0 (q_fldp rfl rfl rfl rfl (by decide)) rfl rfl ?_;refine M0 (q_ld1 rfl rfl rfl rfl rfl) rfl rfl ?_;refine M0 (q_neqK rfl rfl rfl rfl (by assumption)) rfl rfl ?_
    refine L_nil (T_n ?_);refine A_ifF rfl ?_;refine A_skip (T_n (A_seq (A_seq (A_region ?_))))
    refine M0 (q_fldp rfl rfl rfl rfl (by decide)) rfl rfl ?_;refine M0 (q_ld1 rfl rfl rfl rfl rfl) rfl rfl ?_;refine M0 (q_fldp rfl rfl rfl rfl (by decide)) rfl rfl ?_
    refine M0 (q_ld1 rfl rfl rfl rfl rfl) rfl rfl ?_;refine M0 (q_neqK rfl rfl rfl rfl (by assumption)) rfl rfl ?_;refine L_nil (T_n ?_);refine A_ifF rfl ?_;refine A_skip ?_
    refine T_n (A_seq (A_seq (A_region ?_)));refine M0 (q_fldp rfl rfl rfl rfl (by decide)) rfl rfl ?_;refine M0 (q_ld1 rfl rfl rfl rfl rfl) rfl rfl ?_
    refine M0 (q_fldp rfl rfl rfl rfl (by decide)) rfl rfl ?_;refine M0 (q_ld1 rfl rfl rfl rfl rfl) rfl rfl ?_;refine M0 (q_neqK rfl rfl rfl rfl (by assumption)) rfl rfl ?_
    refine L_nil (T_n ?_);refine A_ifF rfl ?_;refine A_skip (T_n (A_seq (A_seq (A_region ?_))))
    refine M0 (q_fldp rfl rfl rfl rfl (by decide)) rfl rfl ?_;refine M0 (q_ld1 rfl rfl rfl rfl rfl) rfl rfl ?_;refine M0 (q_fldp rfl rfl rfl rfl (by decide)) rfl rfl ?_
    refine M0 (q_ld1 rfl rfl rfl rfl rfl) rfl rfl ?_;refine M0 (q_call0 rfl rfl (hc) rfl) rfl rfl ?_;refine M0 (q_not rfl rfl rfl) rfl rfl ?_;refine L_nil (T_n ?_)
    refine A_ifT rfl ?_;refine A_seq (A_region ?_);refine M0 (q_assignC rfl rfl rfl) rfl rfl ?_;refine L_nil (T_n (A_ret (T_r (F_r ?_))))
    exact E_tmp rfl rfl (W_end [] (by decide) rfl rfl (B_eq (decide_eq_false fun e => e_Flights (by rw [e])).symm))
  have e_Flights := Classical.not_not.1 e_Flights
  have hc_Flights := eq_FlightS x.Flights y.Flights g_Flights
  rw [decide_eq_true e_Flights] at hc_Flights
  by_cases e_Sent : ¬ x.Sent = y.Sent
  · have hk : decide (x.Sent ≠ y.Sent) = true := by simp [e_Sent]
    refine Con.of Tryz.func82 rfl Tryz.ntmps82 rfl (fun E => ?_)
    refine A_seq (A_region ?_);refine M1 (q_boxN rfl rfl rfl rfl) rfl rfl ?_;refine M1 (q_boxN rfl rfl rfl rfl) rfl rfl ?_;refine M0 (q_assignC rfl rfl rfl) rfl rfl ?_
    refine L_nil (T_n (A_seq (A_seq (A_region ?_))));refine M0 (q_fldp rfl rfl rfl rfl (by decide)) rfl rfl ?_
    refine M0 (q_ld1 rfl rfl rfl rfl rfl) rfl rfl ?_;refine M0 (q_fldp rfl rfl rfl rfl (by decide)) rfl rfl ?_;refine M0 (q_ld1 rfl rfl rfl rfl rfl) rfl rfl ?_
    refine M0 (q_neqK rfl rfl rfl rfl (by assumption)) rfl rfl ?_;refine L_nil (T_n ?_);refine A_ifF rfl ?_;refine A_skip (T_n (A_seq (A_seq ?_)))
    refine A_region ?_;refine M0 (q_fldp rfl rfl rfl rfl (by decide)) rfl rfl ?_;refine M0 (q_ld1 rfl rfl rfl rfl rfl) rfl rfl ?_;refine M0 (q_fldp rfl rfl rfl rfl (by decide)) rfl rfl ?_
    refine M0 (q_ld1 rfl rfl rfl rfl rfl) rfl rfl ?_;refine M0 (q_neqK rfl rfl rfl rfl (by assumption)) rfl rfl ?_;refine L_nil (T_n ?_);refine A_ifF rfl ?_;refine A_skip ?_
    refine T_n (A_seq (A_seq (A_region ?_)));refine M0 (q_fldp rfl rfl rfl rfl (by decide)) rfl rfl ?_;refine M0 (q_ld1 rfl rfl rfl rfl rfl) rfl rfl ?_
    refine M0 (q_fldp rfl rfl rfl rfl (by decide)) rfl rfl ?_;refine M0 (q_ld1 rfl rfl rfl rfl rfl) rfl rfl ?_;refine M0 (q_neqK rfl rfl rfl rfl (by assumption)) rfl rfl ?_
    refine L_nil (T_n ?_);refine A_ifF rfl ?_;refine A_skip (T_n (A_seq (A_seq (A_region ?_))))
    refine M0 (q_fldp rfl rfl rfl rfl (by decide)) rfl rfl ?_;refine M0 (q_ld1 rfl rfl rfl rfl rfl) rfl rfl ?_;refine M0 (q_fldp rfl rfl rfl rfl (by decide)) rfl rfl ?_
    refine M0 (q_ld1 rfl rfl rfl rfl rfl) rfl rfl ?_;refine M0 (q_neqK rfl rfl rfl rfl (by assumption)) rfl rfl ?_;refine L_nil (T_n ?_);refine A_ifF rfl ?_;refine A_skip ?_
    refine T_n (A_seq (A_seq (A_region ?_)));refine M0 (q_fldp rfl rfl rfl rfl (by decide)) rfl rfl ?_;refine M0 (q_ld1 rfl rfl rfl rfl rfl) rfl rfl ?_
    refine M0 (q_fldp rfl rfl rfl rfl (by decide)) rfl rfl ?_;refine M0 (q_ld1 rfl rfl rfl rfl rfl) rfl rfl ?_;refine M0 (q_neqK rfl rfl rfl rfl (by assumption)) rfl rfl ?_
    refine L_nil (T_n ?_);refine A_ifF rfl ?_;refine A_skip (T_n (A_seq (A_seq (A_region ?_))))
    refine M0 (q_fldp rfl rfl rfl rfl (by decide)) rfl rfl ?_;refine M0 (q_ld1 rfl rfl rfl rfl rfl) rfl rfl ?_;refine M0 (q_fldp rfl rfl rfl rfl (by decide)) rfl rfl ?_
    refine M0 (q_ld1 rfl rfl rfl rfl rfl) rfl rfl ?_;refine M0 (q_neqK rfl rfl rfl rfl (by assumption)) rfl rfl ?_;refine L_nil (T_n ?_);refine A_ifF rfl ?_;refine A_skip ?_
    refine T_n (A_seq (A_seq (A_region ?_)));refine M0 (q_fldp rfl rfl rfl rfl (by decide)) rfl rfl ?_;refine M0 (q_ld1 rfl rfl rfl rfl rfl) rfl rfl ?_
    refine M0 (q_fldp rfl rfl rfl rfl (by decide)) rfl rfl ?_;refine M0 (q_ld1 rfl rfl rfl rfl rfl) rfl rfl ?_;refine M0 (q_neqK rfl rfl rfl rfl (by assumption)) rfl rfl ?_
    refine L_nil (T_n ?_);refine A_ifF rfl ?_;refine A_skip (T_n (A_seq (A_seq (A_region ?_))))
    refine M0 (q_fldp rfl rfl rfl rfl (by decide)) rfl rfl ?_;refine M0 (q_ld1 rfl rfl rfl rfl rfl) rfl rfl ?_;refine M0 (q_fldp rfl rfl rfl rfl (by decide)) rfl rfl ?_
    refine M0 (q_ld1 rfl rfl rfl rfl rfl) rfl rfl ?_;refine M0 (q_call0 rfl rfl (hc_Flights) rfl) rfl rfl ?_;refine M0 (q_not rfl rfl rfl) rfl rfl ?_;refine L_nil (T_n ?_)
    refine A_ifF rfl ?_;refine A_skip (T_n (A_seq (A_seq (A_region ?_))));refine M0 (q_fldp rfl rfl rfl rfl (by decide)) rfl rfl ?_
    refine M0 (q_ld1 rfl rfl rfl rfl rfl) rfl rfl ?_;refine M0 (q_fldp rfl rfl rfl rfl (by decide)) rfl rfl ?_;refine M0 (q_ld1 rfl rfl rfl rfl rfl) rfl rfl ?_
    refine M0 (q_neqK rfl rfl rfl rfl (by assumption)) rfl rfl ?_;refine L_nil (T_n ?_);refine A_ifT rfl ?_;refine A_seq (A_region ?_)
    refine M0 (q_assignC rfl rfl rfl) rfl rfl ?_;refine L_nil (T_n (A_ret (T_r (F_r ?_))))
    exact E_tmp rfl rfl (W_end [] (by decide) rfl rfl (B_eq (decide_eq_false fun e => e_Sent (by rw [e])).symm))
  have e_Sent := Classical.not_not.1 e_Sent
  have k_Sent : decide (x.Sent ≠ y.Sent) = false := by simp [e_Sent]
  by_cases e_Lost : ¬ x.Lost = y.Lost
  · have hk : decide (x.Lost ≠ y.Lost) = true := by simp [e_Lost]
    refine Con.of Tryz.func82 rfl Tryz.ntmps82 rfl (fun E => ?_)
    refine A_seq (A_region ?_);refine M1 (q_boxN rfl rfl rfl rfl) rfl rfl ?_;refine M1 (q_boxN rfl rfl rfl rfl) rfl rfl ?_;refine M0 (q_assignC rfl rfl rfl) rfl rfl ?_
    refine L_nil (T_n (A_seq (A_seq (A_region ?_))));refine M0 (q_fldp rfl rfl rfl rfl (by decide)) rfl rfl ?_
    refine M0 (q_ld1 rfl rfl rfl rfl rfl) rfl rfl ?_;refine M0 (q_fldp rfl rfl rfl rfl (by decide)) rfl rfl ?_;refine M0 (q_ld1 rfl rfl rfl rfl rfl) rfl rfl ?_
    refine M0 (q_neqK rfl rfl rfl rfl (by assumption)) rfl rfl ?_;refine L_nil (T_n ?_);refine A_ifF rfl ?_;refine A_skip (T_n (A_seq (A_seq ?_)))
    refine A_region ?_;refine M0 (q_fldp rfl rfl rfl rfl (by decide)) rfl rfl ?_;refine M0 (q_ld1 rfl rfl rfl rfl rfl) rfl rfl ?_;refine M0 (q_fldp rfl rfl rfl rfl (by decide)) rfl rfl ?_
    refine M0 (q_ld1 rfl rfl rfl rfl rfl) rfl rfl ?_;refine M0 (q_neqK rfl rfl rfl rfl (by assumption)) rfl rfl ?_;refine L_nil (T_n ?_);refine A_ifF rfl ?_;refine A_skip ?_
    refine T_n (A_seq (A_seq (A_region ?_)));refine M0 (q_fldp rfl rfl rfl rfl (by decide)) rfl rfl ?_;refine M0 (q_ld1 rfl rfl rfl rfl rfl) rfl rfl ?_
    refine M0 (q_fldp rfl rfl rfl rfl (by decide)) rfl rfl ?_;refine M0 (q_ld1 rfl rfl rfl rfl rfl) rfl rfl ?_;refine M0 (q_neqK rfl rfl rfl rfl (by assumption)) rfl rfl ?_
    refine L_nil (T_n ?_);refine A_ifF rfl ?_;refine A_skip (T_n (A_seq (A_seq (A_region ?_))))
    refine M0 (q_fldp rfl rfl rfl rfl (by decide)) rfl rfl ?_;refine M0 (q_ld1 rfl rfl rfl rfl rfl) rfl rfl ?_;refine M0 (q_fldp rfl rfl rfl rfl (by decide)) rfl rfl ?_
    refine M0 (q_ld1 rfl rfl rfl rfl rfl) rfl rfl ?_;refine M0 (q_neqK rfl rfl rfl rfl (by assumption)) rfl rfl ?_;refine L_nil (T_n ?_);refine A_ifF rfl ?_;refine A_skip ?_
    refine T_n (A_seq (A_seq (A_region ?_)));refine M0 (q_fldp rfl rfl rfl rfl (by decide)) rfl rfl ?_;refine M0 (q_ld1 rfl rfl rfl rfl rfl) rfl rfl ?_
    refine M0 (q_fldp rfl rfl rfl rfl (by decide)) rfl rfl ?_;refine M0 (q_ld1 rfl rfl rfl rfl rfl) rfl rfl ?_;refine M0 (q_neqK rfl rfl rfl rfl (by assumption)) rfl rfl ?_
    refine L_nil (T_n ?_);refine A_ifF rfl ?_;refine A_skip (T_n (A_seq (A_seq (A_region ?_))))
    refine M0 (q_fldp rfl rfl rfl rfl (by decide)) rfl rfl ?_;refine M0 (q_ld1 rfl rfl rfl rfl rfl) rfl rfl ?_;refine M0 (q_fldp rfl rfl rfl rfl (by decide)) rfl rfl ?_
    refine M0 (q_ld1 rfl rfl rfl rfl rfl) rfl rfl ?_;refine M0 (q_neqK rfl rfl rfl rfl (by assumption)) rfl rfl ?_;refine L_nil (T_n ?_);refine A_ifF rfl ?_;refine A_skip ?_
    refine T_n (A_seq (A_seq (A_region ?_)));refine M0 (q_fldp rfl rfl rfl rfl (by decide)) rfl rfl ?_;refine M0 (q_ld1 rfl rfl rfl rfl rfl) rfl rfl ?_
    refine M0 (q_fldp rfl rfl rfl rfl (by decide)) rfl rfl ?_;refine M0 (q_ld1 rfl rfl rfl rfl rfl) rfl rfl ?_;refine M0 (q_neqK rfl rfl rfl rfl (by assumption)) rfl rfl ?_
    refine L_nil (T_n ?_);refine A_ifF rfl ?_;refine A_skip (T_n (A_seq (A_seq (A_region ?_))))
    refine M0 (q_fldp rfl rfl rfl rfl (by decide)) rfl rfl ?_;refine M0 (q_ld1 rfl rfl rfl rfl rfl) rfl rfl ?_;refine M0 (q_fldp rfl rfl rfl rfl (by decide)) rfl rfl ?_
    refine M0 (q_ld1 rfl rfl rfl rfl rfl) rfl rfl ?_;refine M0 (q_call0 rfl rfl (hc_Flights) rfl) rfl rfl ?_;refine M0 (q_not rfl rfl rfl) rfl rfl ?_;refine L_nil (T_n ?_)
    refine A_ifF rfl ?_;refine A_skip (T_n (A_seq (A_seq (A_region ?_))));refine M0 (q_fldp rfl rfl rfl rfl (by decide)) rfl rfl ?_
    refine M0 (q_ld1 rfl rfl rfl rfl rfl) rfl rfl ?_;refine M0 (q_fldp rfl rfl rfl rfl (by decide)) rfl rfl ?_;refine M0 (q_ld1 rfl rfl rfl rfl rfl) rfl rfl ?_
    refine M0 (q_neqK rfl rfl rfl rfl (by assumption)) rfl rfl ?_;refine L_nil (T_n ?_);refine A_ifF rfl ?_;refine A_skip (T_n (A_seq (A_seq ?_)))
    refine A_region ?_;refine M0 (q_fldp rfl rfl rfl rfl (by decide)) rfl rfl ?_;refine M0 (q_ld1 rfl rfl rfl rfl rfl) rfl rfl ?_;refine M0 (q_fldp rfl rfl rfl rfl (by decide)) rfl rfl ?_
    refine M0 (q_ld1 rfl rfl rfl rfl rfl) rfl rfl ?_;refine M0 (q_neqK rfl rfl rfl rfl (by assumption)) rfl rfl ?_;refine L_nil (T_n ?_);refine A_ifT rfl ?_;refine A_seq ?_
    refine A_region ?_;refine M0 (q_assignC rfl rfl rfl) rfl rfl ?_;refine L_nil (T_n (A_ret (T_r (F_r ?_))))
    exact E_tmp rfl rfl (W_end [] (by decide) rfl rfl (B_eq (decide_eq_false fun e => e_Lost (by rw [e])).symm))
  have e_Lost := Classical.not_not.1 e_Lost
  have k_Lost : decide (x.Lost ≠ y.Lost) = false := by simp [e_Lost]
  refine Con.of Tryz.func82 rfl Tryz.ntmps82 rfl (fun E => ?_)
  refine A_seq (A_region ?_);refine M1 (q_boxN rfl rfl rfl rfl) rfl rfl ?_;refine M1 (q_boxN rfl rfl rfl rfl) rfl rfl ?_;refine M0 (q_assignC rfl rfl rfl) rfl rfl ?_
  refine L_nil (T_n (A_seq (A_seq (A_region ?_))));refine M0 (q_fldp rfl rfl rfl rfl (by decide)) rfl rfl ?_
  refine M0 (q_ld1 rfl rfl rfl rfl rfl) rfl rfl ?_;refine M0 (q_fldp rfl rfl rfl rfl (by decide)) rfl rfl ?_;refine M0 (q_ld1 rfl rfl rfl rfl rfl) rfl rfl ?_
  refine M0 (q_neqK rfl rfl rfl rfl (by assumption)) rfl rfl ?_;refine L_nil (T_n ?_);refine A_ifF rfl ?_;refine A_skip (T_n (A_seq (A_seq ?_)))
  refine A_region ?_;refine M0 (q_fldp rfl rfl rfl rfl (by decide)) rfl rfl ?_;refine M0 (q_ld1 rfl rfl rfl rfl rfl) rfl rfl ?_;refine M0 (q_fldp rfl rfl rfl rfl (by decide)) rfl rfl ?_
  refine M0 (q_ld1 rfl rfl rfl rfl rfl) rfl rfl ?_;refine M0 (q_neqK rfl rfl rfl rfl (by assumption)) rfl rfl ?_;refine L_nil (T_n ?_);refine A_ifF rfl ?_;refine A_skip ?_
  refine T_n (A_seq (A_seq (A_region ?_)));refine M0 (q_fldp rfl rfl rfl rfl (by decide)) rfl rfl ?_;refine M0 (q_ld1 rfl rfl rfl rfl rfl) rfl rfl ?_
  refine M0 (q_fldp rfl rfl rfl rfl (by decide)) rfl rfl ?_;refine M0 (q_ld1 rfl rfl rfl rfl rfl) rfl rfl ?_;refine M0 (q_neqK rfl rfl rfl rfl (by assumption)) rfl rfl ?_
  refine L_nil (T_n ?_);refine A_ifF rfl ?_;refine A_skip (T_n (A_seq (A_seq (A_region ?_))))
  refine M0 (q_fldp rfl rfl rfl rfl (by decide)) rfl rfl ?_;refine M0 (q_ld1 rfl rfl rfl rfl rfl) rfl rfl ?_;refine M0 (q_fldp rfl rfl rfl rfl (by decide)) rfl rfl ?_
  refine M0 (q_ld1 rfl rfl rfl rfl rfl) rfl rfl ?_;refine M0 (q_neqK rfl rfl rfl rfl (by assumption)) rfl rfl ?_;refine L_nil (T_n ?_);refine A_ifF rfl ?_;refine A_skip ?_
  refine T_n (A_seq (A_seq (A_region ?_)));refine M0 (q_fldp rfl rfl rfl rfl (by decide)) rfl rfl ?_;refine M0 (q_ld1 rfl rfl rfl rfl rfl) rfl rfl ?_
  refine M0 (q_fldp rfl rfl rfl rfl (by decide)) rfl rfl ?_;refine M0 (q_ld1 rfl rfl rfl rfl rfl) rfl rfl ?_;refine M0 (q_neqK rfl rfl rfl rfl (by assumption)) rfl rfl ?_
  refine L_nil (T_n ?_);refine A_ifF rfl ?_;refine A_skip (T_n (A_seq (A_seq (A_region ?_))))
  refine M0 (q_fldp rfl rfl rfl rfl (by decide)) rfl rfl ?_;refine M0 (q_ld1 rfl rfl rfl rfl rfl) rfl rfl ?_;refine M0 (q_fldp rfl rfl rfl rfl (by decide)) rfl rfl ?_
  refine M0 (q_ld1 rfl rfl rfl rfl rfl) rfl rfl ?_;refine M0 (q_neqK rfl rfl rfl rfl (by assumption)) rfl rfl ?_;refine L_nil (T_n ?_);refine A_ifF rfl ?_;refine A_skip ?_
  refine T_n (A_seq (A_seq (A_region ?_)));refine M0 (q_fldp rfl rfl rfl rfl (by decide)) rfl rfl ?_;refine M0 (q_ld1 rfl rfl rfl rfl rfl) rfl rfl ?_
  refine M0 (q_fldp rfl rfl rfl rfl (by decide)) rfl rfl ?_;refine M0 (q_ld1 rfl rfl rfl rfl rfl) rfl rfl ?_;refine M0 (q_neqK rfl rfl rfl rfl (by assumption)) rfl rfl ?_
  refine L_nil (T_n ?_);refine A_ifF rfl ?_;refine A_skip (T_n (A_seq (A_seq (A_region ?_))))
  refine M0 (q_fldp rfl rfl rfl rfl (by decide)) rfl rfl ?_;refine M0 (q_ld1 rfl rfl rfl rfl rfl) rfl rfl ?_;refine M0 (q_fldp rfl rfl rfl rfl (by decide)) rfl rfl ?_
  refine M0 (q_ld1 rfl rfl rfl rfl rfl) rfl rfl ?_;refine M0 (q_call0 rfl rfl (hc_Flights) rfl) rfl rfl ?_;refine M0 (q_not rfl rfl rfl) rfl rfl ?_;refine L_nil (T_n ?_)
  refine A_ifF rfl ?_;refine A_skip (T_n (A_seq (A_seq (A_region ?_))));refine M0 (q_fldp rfl rfl rfl rfl (by decide)) rfl rfl ?_
  refine M0 (q_ld1 rfl rfl rfl rfl rfl) rfl rfl ?_;refine M0 (q_fldp rfl rfl rfl rfl (by decide)) rfl rfl ?_;refine M0 (q_ld1 rfl rfl rfl rfl rfl) rfl rfl ?_
  refine M0 (q_neqK rfl rfl rfl rfl (by assumption)) rfl rfl ?_;refine L_nil (T_n ?_);refine A_ifF rfl ?_;refine A_skip (T_n (A_seq (A_seq ?_)))
  refine A_region ?_;refine M0 (q_fldp rfl rfl rfl rfl (by decide)) rfl rfl ?_;refine M0 (q_ld1 rfl rfl rfl rfl rfl) rfl rfl ?_;refine M0 (q_fldp rfl rfl rfl rfl (by decide)) rfl rfl ?_
  refine M0 (q_ld1 rfl rfl rfl rfl rfl) rfl rfl ?_;refine M0 (q_neqK rfl rfl rfl rfl (by assumption)) rfl rfl ?_;refine L_nil (T_n ?_);refine A_ifF rfl ?_;refine A_skip ?_
  refine T_n (A_seq (A_region ?_));refine M0 (q_assignC rfl rfl rfl) rfl rfl ?_;refine L_nil (T_n (A_ret (F_r ?_)))
  exact E_tmp rfl rfl (W_end [] (by decide) rfl rfl (B_eq (decide_eq_true (TWire.same e_Seed e_Delay e_Jitter e_Loss e_Copies e_Damage e_Now e_Flights e_Sent e_Lost)).symm))
set_option maxHeartbeats 1000000 in
theorem sz_WireS (xs : List TWire) (left : Int) (hg : Enc.gd xs) (h0 : 0 ≤ left) (h1 : left ≤ 1048576) : Con Tryz.prog 18 [] [al xs,ai left] [] (I (szr (Enc.wt xs) left)) := by
  have hlen := els_len xs
  have hx := hg.1
  have hw : Enc.wt xs = xs.length + wts xs := rfl
  refine Con.of Tryz.func18 rfl Tryz.ntmps18 rfl (fun E => ?_)
  refine A_seq (A_region ?_);refine M0 (q_assignC rfl rfl rfl) rfl rfl ?_;refine L_nil (T_n (A_seq (A_region ?_)));refine M0 (q_moveC rfl rfl rfl) rfl rfl ?_
  refine M0 (q_moveC rfl rfl rfl) rfl rfl ?_;refine M0 (q_len rfl rfl rfl) rfl rfl ?_;refine M0 (q_sub rfl rfl rfl rfl (by omega)) rfl rfl ?_
  refine M0 (q_assignC rfl rfl rfl) rfl rfl ?_;refine L_nil (T_n (A_seq (A_seq (A_region ?_))));refine M0 (q_moveC rfl rfl rfl) rfl rfl ?_
  refine M0 (q_lss rfl rfl rfl rfl) rfl rfl ?_;refine L_nil (T_n ?_)
  refine A_cond rfl (fun h => ?_) (fun h => ?_)
  · refine A_seq (A_region ?_);refine M0 (q_assignC rfl rfl rfl) rfl rfl ?_;refine L_nil (T_n (A_ret (T_r (F_r ?_))))
    have h2 := of_decide_eq_true h
    exact E_tmp rfl rfl (W_end [] (by decide) rfl rfl (I_eq (by rw [szr_neg (by omega)])))
  have h2 : ¬ (left - ((els xs).length : Int) < 0) := of_decide_eq_false h
  refine A_skip (T_n (A_seq (A_seq (A_region ?_))));refine M0 (q_assignC rfl rfl rfl) rfl rfl ?_;refine L_nil (T_n (A_block ?_))
  refine A_loop (fun m st => ∃ k : Nat,k + m = xs.length ∧ (((xs.length : Int) + wts (xs.take k) ≤ left)) ∧ st = (fun k : Nat => (⟨_,[(0,L xs),(1,I (left - (xs.length + wts (xs.take k)))),(5,I k)],[]⟩ : St)) k) (xs.length) ⟨(fun k : Nat => (⟨_,[(0,L xs),(1,I (left - (xs.length + wts (xs.take k)))),(5,I k)],[]⟩ : St)) 0,W_go [] (by decide) rfl (rfl) (.cons rfl (.cons (I_eq (by simp [els,wts])) (.cons rfl (.nil)))),0,by omega,by simp [wts]; omega,rfl⟩ ?_
  rintro m_A _ ⟨k,hk_A,hp_A,rfl⟩
  refine A_seq (A_seq (A_region ?_));refine M0 (q_moveC rfl rfl rfl) rfl rfl ?_;refine M0 (q_moveC rfl rfl rfl) rfl rfl ?_;refine M0 (q_len rfl rfl rfl) rfl rfl ?_
  refine M0 (q_lss rfl rfl rfl rfl) rfl rfl ?_;refine L_nil (T_n ?_)
  refine A_cond rfl (fun h => ?_) (fun h => ?_)
  · have h3 : k < xs.length := by have := of_decide_eq_true h; omega
    have hat := els_at h3
    have hstep := wts_take xs k h3
    have hle := wts_take_le xs (k + 1)
    have hc := sz_Wire xs[k] (left - ((xs.length : Int) + wts (xs.take k))) (hg.2 _ (List.getElem_mem h3)) (by omega) (by omega)
    by_cases h4 : left - ((xs.length : Int) + wts (xs.take k)) < Enc.wt xs[k]
    · rw [szr_neg h4] at hc
      have hb : decide ((-1 : Int) < 0) = true := rfl
      refine A_skip (T_n (A_seq (A_block (A_seq (A_region ?_)))));refine M0 (q_moveC rfl rfl rfl) rfl rfl ?_;refine M0 (q_moveC rfl rfl rfl) rfl rfl ?_
      refine M0 (q_at rfl rfl rfl rfl (by omega) (by assumption) rfl) rfl rfl ?_;refine M0 (q_lrN rfl rfl rfl rfl rfl) rfl rfl ?_;refine M0 (q_moveC rfl rfl rfl) rfl rfl ?_
      refine M0 (q_call0 rfl rfl (hc) rfl) rfl rfl ?_;refine M0 (q_assignC rfl rfl rfl) rfl rfl ?_;refine L_nil (T_n (A_seq (A_region ?_)))
      refine M0 (q_moveC rfl rfl rfl) rfl rfl ?_;refine M0 (q_lssK rfl rfl rfl rfl (by assumption)) rfl rfl ?_;refine L_nil (T_n ?_);refine A_ifT rfl ?_;refine A_seq ?_
      refine A_region ?_;refine M0 (q_assignC rfl rfl rfl) rfl rfl ?_;refine L_nil (T_n (A_ret (B_r (T_r (T_r (B_r (T_r ?_)))))))
      refine F_r ?_
      exact E_tmp rfl rfl (W_end [] (by decide) rfl rfl (I_eq (by rw [szr_neg (by omega)])))
    · rw [szr_pos (by omega)] at hc
      have hb : decide (left - ((xs.length : Int) + wts (xs.take k)) - Enc.wt xs[k] < 0) = false := decide_eq_false (by omega)
      refine A_skip (T_n (A_seq (A_block (A_seq (A_region ?_)))));refine M0 (q_moveC rfl rfl rfl) rfl rfl ?_;refine M0 (q_moveC rfl rfl rfl) rfl rfl ?_
      refine M0 (q_at rfl rfl rfl rfl (by omega) (by assumption) rfl) rfl rfl ?_;refine M0 (q_lrN rfl rfl rfl rfl rfl) rfl rfl ?_;refine M0 (q_moveC rfl rfl rfl) rfl rfl ?_
      refine M0 (q_call0 rfl rfl (hc) rfl) rfl rfl ?_;refine M0 (q_assignC rfl rfl rfl) rfl rfl ?_;refine L_nil (T_n (A_seq (A_region ?_)))
      refine M0 (q_moveC rfl rfl rfl) rfl rfl ?_;refine M0 (q_lssK rfl rfl rfl rfl (by assumption)) rfl rfl ?_;refine L_nil (T_n ?_);refine A_ifF rfl ?_;refine A_skip (B_n ?_)
      refine T_n (A_region ?_);refine M0 (q_moveC rfl rfl rfl) rfl rfl ?_;refine M0 (q_add rfl rfl rfl rfl (by omega)) rfl rfl ?_;refine M0 (q_assignC rfl rfl rfl) rfl rfl ?_
      refine L_nil (T_n ?_)
      exact ⟨xs.length - (k + 1),by omega,(fun k : Nat => (⟨_,[(0,L xs),(1,I (left - (xs.length + wts (xs.take k)))),(5,I k)],[]⟩ : St)) (k + 1),W_go [] (by decide) rfl (rfl) (.cons rfl (.cons (I_eq (by rw [hstep]; omega)) (.cons rfl (.nil)))),k + 1,by omega,by omega,rfl⟩
  · have h3 : ¬ ((k : Int) < (els xs).length) := of_decide_eq_false h
    have hk : wts (xs.take k) = wts xs := by rw [List.take_of_length_le (by omega)]
    refine A_exit (T_x (T_x (B_xs (T_n (A_seq (A_region ?_))))));refine M0 (q_moveC rfl rfl rfl) rfl rfl ?_
    refine M0 (q_assignC rfl rfl rfl) rfl rfl ?_;refine L_nil (T_n (A_ret (F_r ?_)))
    exact E_tmp rfl rfl (W_end [] (by decide) rfl rfl (I_eq (by rw [szr_pos (by omega)]; omega)))
def zWire : List T := [.v (.int .i64 0),.v (.int .i64 0),.v (.int .i64 0),.v (.int .i64 0),.v (.int .i64 0),.v (.int .i64 0),.v (.int .i64 0),.sl 2 [],.v (.int .i64 0),.v (.int .i64 0)]
set_option maxHeartbeats 1000000 in
theorem to_WireS (xs : List TWire) (hg : Enc.wt xs ≤ 1048576) : Con Tryz.prog 34 [] [al xs] [.row 10 (els xs)] (.o (.c (.ref 0))) := by
  have hlen := els_len xs
  have hw : Enc.wt xs = xs.length + wts xs := rfl
  refine Con.of Tryz.func34 rfl Tryz.ntmps34 rfl (fun E => ?_)
  refine A_seq (A_region ?_);refine M0 (q_assignC rfl rfl rfl) rfl rfl ?_;refine L_nil (T_n (A_seq (A_region ?_)));refine M0 (q_moveC rfl rfl rfl) rfl rfl ?_
  refine M0 (q_len rfl rfl rfl) rfl rfl ?_;refine M1 (q_make 2 rfl rfl rfl rfl (by omega) (by omega) (by omega) rfl (by decide)) rfl rfl ?_;refine M0 (q_assignC rfl rfl rfl) rfl rfl ?_
  refine L_nil (T_n (A_seq (A_seq (A_region ?_))));refine M0 (q_assignC rfl rfl rfl) rfl rfl ?_;refine L_nil (T_n (A_block ?_))
  refine A_loop (fun m st => ∃ k : Nat,k + m = xs.length ∧ (True) ∧ st = (fun k : Nat => (⟨_,[(0,L xs),(3,.o (.c (.ref 0))),(4,I k)],[.row 10 (part xs zWire k)]⟩ : St)) k) (xs.length) ⟨(fun k : Nat => (⟨_,[(0,L xs),(3,.o (.c (.ref 0))),(4,I k)],[.row 10 (part xs zWire k)]⟩ : St)) 0,W_go [0] (by decide) rfl (row_eq (part_zero xs _)) (.cons rfl (.cons rfl (.cons rfl (.nil)))),0,by omega,trivial,rfl⟩ ?_
  rintro m_A _ ⟨k,hk_A,hp_A,rfl⟩
  refine A_seq (A_seq (A_region ?_));refine M0 (q_moveC rfl rfl rfl) rfl rfl ?_;refine M0 (q_moveC rfl rfl rfl) rfl rfl ?_;refine M0 (q_len rfl rfl rfl) rfl rfl ?_
  refine M0 (q_lss rfl rfl rfl rfl) rfl rfl ?_;refine L_nil (T_n ?_)
  refine A_cond rfl (fun h => ?_) (fun h => ?_)
  · have h3 : k < xs.length := by have := of_decide_eq_true h; omega
    have hat := els_at h3
    have hz := part_at xs zWire h3
    have hpl : (k : Int) < (part xs zWire k).length := by rw [part_len xs _ (by omega)]; omega
    have hwt : Enc.wt xs[k] ≤ wts xs := wts_le xs _ (List.getElem_mem h3)
    have hc := to_Wire xs[k] (by omega)
    refine A_skip (T_n (A_seq (A_block (A_region ?_))));refine M0 (q_moveC rfl rfl rfl) rfl rfl ?_;refine M0 (q_moveC rfl rfl rfl) rfl rfl ?_
    refine M0 (q_moveC rfl rfl rfl) rfl rfl ?_;refine M0 (q_moveC rfl rfl rfl) rfl rfl ?_;refine M0 (q_at rfl rfl rfl rfl (by omega) (by assumption) rfl) rfl rfl ?_
    refine M0 (q_lrN rfl rfl rfl rfl rfl) rfl rfl ?_;refine M1 (q_call rfl rfl (hc) rfl rfl rfl) rfl rfl ?_;refine M0 (q_ar rfl rfl rfl rfl rfl (by omega) (by assumption)) rfl rfl ?_
    refine M_steN rfl rfl rfl rfl rfl rfl rfl rfl rfl rfl (by assumption) rfl rfl ?_;refine L_nil (B_n (T_n (A_region ?_)))
    refine M0 (q_moveC rfl rfl rfl) rfl rfl ?_;refine M0 (q_add rfl rfl rfl rfl (by omega)) rfl rfl ?_;refine M0 (q_assignC rfl rfl rfl) rfl rfl ?_;refine L_nil (T_n ?_)
    exact ⟨xs.length - (k + 1),by omega,(fun k : Nat => (⟨_,[(0,L xs),(3,.o (.c (.ref 0))),(4,I k)],[.row 10 (part xs zWire k)]⟩ : St)) (k + 1),W_go [0] (by decide) rfl (row_eq (part_set xs zWire h3 _ (by rfl) (by rfl)).symm) (.cons rfl (.cons rfl (.cons rfl (.nil)))),k + 1,by omega,trivial,rfl⟩
  · have h3 : ¬ ((k : Int) < (els xs).length) := of_decide_eq_false h
    refine A_exit (T_x (T_x (B_xs (T_n (A_seq (A_region ?_))))));refine M0 (q_moveC rfl rfl rfl) rfl rfl ?_
    refine M0 (q_assignC rfl rfl rfl) rfl rfl ?_;refine L_nil (T_n (A_ret (F_r ?_)))
    exact E_tmp rfl rfl (W_end [0] (by decide) rfl (row_eq (part_all xs _ (by omega)).symm) rfl)
set_option maxHeartbeats 1000000 in
theorem eq_WireS (xs ys : List TWire) (hn : Enc.gd xs) : Con Tryz.prog 48 [] [al xs,al ys] [] (B (decide (xs = ys))) := by
  have hn1 := hn.1
  have hlx := els_len xs
  have hly := els_len ys
  by_cases hl : xs.length = ys.length
  · have hb : decide (((els xs).length : Int) ≠ ((els ys).length : Int)) = false := by rw [hlx,hly,hl]; simp
    refine Con.of Tryz.func48 rfl Tryz.ntmps48 rfl (fun E => ?_)
    refine A_seq (A_region ?_);refine M0 (q_assignC rfl rfl rfl) rfl rfl ?_;refine L_nil (T_n (A_seq (A_seq (A_region ?_))))
    refine M0 (q_moveC rfl rfl rfl) rfl rfl ?_;refine M0 (q_len rfl rfl rfl) rfl rfl ?_;refine M0 (q_moveC rfl rfl rfl) rfl rfl ?_;refine M0 (q_len rfl rfl rfl) rfl rfl ?_
    refine M0 (q_neqK rfl rfl rfl rfl (by assumption)) rfl rfl ?_;refine L_nil (T_n ?_);refine A_ifF rfl ?_;refine A_skip (T_n (A_seq (A_seq ?_)))
    refine A_region ?_;refine M0 (q_assignC rfl rfl rfl) rfl rfl ?_;refine L_nil (T_n (A_block ?_))
    refine A_loop (fun m st => ∃ k : Nat,k + m = xs.length ∧ (xs.take k = ys.take k) ∧ st = (fun k : Nat => (⟨_,[(0,L xs),(1,L ys),(5,I k)],[]⟩ : St)) k) (xs.length) ⟨(fun k : Nat => (⟨_,[(0,L xs),(1,L ys),(5,I k)],[]⟩ : St)) 0,W_go [] (by decide) rfl (rfl) (.cons rfl (.cons rfl (.cons rfl (.nil)))),0,by omega,by simp,rfl⟩ ?_
    rintro m_A _ ⟨k,hk_A,hp_A,rfl⟩
    refine A_seq (A_seq (A_region ?_));refine M0 (q_moveC rfl rfl rfl) rfl rfl ?_;refine M0 (q_moveC rfl rfl rfl) rfl rfl ?_;refine M0 (q_len rfl rfl rfl) rfl rfl ?_
    refine M0 (q_lss rfl rfl rfl rfl) rfl rfl ?_;refine L_nil (T_n ?_)
    refine A_cond rfl (fun h => ?_) (fun h => ?_)
    · have h3 : k < xs.length := by have := of_decide_eq_true h; omega
      have h4 : k < ys.length := by omega
      have hat := els_at h3
      have hat2 := els_at h4
      have hc := eq_Wire xs[k] ys[k] (hn.2 _ (List.getElem_mem h3))
      by_cases he : xs[k] = ys[k]
      · rw [decide_eq_true he] at hc
        refine A_skip (T_n (A_seq (A_block (A_seq ?_))))
        refine A_draw [[],[],[0,1],[0,1,2],[],[],[4,5],[4,5,6],[0,1,2,3,4,5,6,7],[0,1,2,3,4,5,6,7,8]] [[],[],[17,18],[17,18,19],[],[],[21,22],[21,22,23],[17,18,19,20,21,22,23,24],[17,18,19,20,21,22,23,24,25]] [[18,21,22,23,24],[17,21,22,23,24],[21,22,23,24],[21,22,23,24],[17,18,19,20,22],[17,18,19,20,21],[17,18,19,20],[17,18,19,20],[],[]] rfl ?_
        refine DR.step (q_moveC rfl rfl rfl) rfl rfl ?_;refine DR.step (q_moveC rfl rfl rfl) rfl rfl ?_;refine DR.step (q_at rfl rfl rfl rfl (by omega) (by assumption) rfl) rfl rfl ?_
        refine DR.step (q_lrN rfl rfl rfl rfl rfl) rfl rfl ?_;refine DR.step (q_moveC rfl rfl rfl) rfl rfl ?_;refine DR.step (q_moveC rfl rfl rfl) rfl rfl ?_
        refine DR.step (q_at rfl rfl rfl rfl (by omega) (by assumption) rfl) rfl rfl ?_;refine DR.step (q_lrN rfl rfl rfl rfl rfl) rfl rfl ?_
        refine DR.step (q_call0 rfl rfl (hc) rfl) rfl rfl ?_;refine DR.step (q_not rfl rfl rfl) rfl rfl ?_;refine DR.stop (by kernel_rfl) (by kernel_rfl) ?_
        refine L_nil (T_n ?_);refine A_ifF rfl ?_;refine A_skip (B_n (T_n (A_region ?_)));refine M0 (q_moveC rfl rfl rfl) rfl rfl ?_
        refine M0 (q_add rfl rfl rfl rfl (by omega)) rfl rfl ?_;refine M0 (q_assignC rfl rfl rfl) rfl rfl ?_;refine L_nil (T_n ?_)
        exact ⟨xs.length - (k + 1),by omega,(fun k : Nat => (⟨_,[(0,L xs),(1,L ys),(5,I k)],[]⟩ : St)) (k + 1),W_go [] (by decide) rfl (rfl) (.cons rfl (.cons rfl (.cons rfl (.nil)))),k + 1,by omega,eq_next h3 h4 hp_A he,rfl⟩
      · rw [decide_eq_false he] at hc
        refine A_skip (T_n (A_seq (A_block (A_seq ?_))))
        refine A_draw [[],[],[0,1],[0,1,2],[],[],[4,5],[4,5,6],[0,1,2,3,4,5,6,7],[0,1,2,3,4,5,6,7,8]] [[],[],[17,18],[17,18,19],[],[],[21,22],[21,22,23],[17,18,19,20,21,22,23,24],[17,18,19,20,21,22,23,24,25]] [[18,21,22,23,24],[17,21,22,23,24],[21,22,23,24],[21,22,23,24],[17,18,19,20,22],[17,18,19,20,21],[17,18,19,20],[17,18,19,20],[],[]] rfl ?_
        refine DR.step (q_moveC rfl rfl rfl) rfl rfl ?_;refine DR.step (q_moveC rfl rfl rfl) rfl rfl ?_;refine DR.step (q_at rfl rfl rfl rfl (by omega) (by assumption) rfl) rfl rfl ?_
        refine DR.step (q_lrN rfl rfl rfl rfl rfl) rfl rfl ?_;refine DR.step (q_moveC rfl rfl rfl) rfl rfl ?_;refine DR.step (q_moveC rfl rfl rfl) rfl rfl ?_
        refine DR.step (q_at rfl rfl rfl rfl (by omega) (by assumption) rfl) rfl rfl ?_;refine DR.step (q_lrN rfl rfl rfl rfl rfl) rfl rfl ?_
        refine DR.step (q_call0 rfl rfl (hc) rfl) rfl rfl ?_;refine DR.step (q_not rfl rfl rfl) rfl rfl ?_;refine DR.stop (by kernel_rfl) (by kernel_rfl) ?_
        refine L_nil (T_n ?_);refine A_ifT rfl ?_;refine A_seq (A_region ?_);refine M0 (q_assignC rfl rfl rfl) rfl rfl ?_;refine L_nil (T_n (A_ret (B_r ?_)))
        refine T_r (T_r (B_r (T_r (F_r ?_))))
        exact E_tmp rfl rfl (W_end [] (by decide) rfl rfl (B_eq (eq_ne h3 h4 he).symm))
    · have h3 : ¬ ((k : Int) < (els xs).length) := of_decide_eq_false h
      refine A_exit (T_x (T_x (B_xs (T_n (A_seq (A_region ?_))))));refine M0 (q_assignC rfl rfl rfl) rfl rfl ?_;refine L_nil (T_n ?_)
      refine A_ret (F_r ?_)
      exact E_tmp rfl rfl (W_end [] (by decide) rfl rfl (B_eq (eq_all (by omega) hl hp_A).symm))
  · have hb : decide (((els xs).length : Int) ≠ ((els ys).length : Int)) = true := by rw [hlx,hly]; simp; omega
    refine Con.of Tryz.func48 rfl Tryz.ntmps48 rfl (fun E => ?_)
    refine A_seq (A_region ?_);refine M0 (q_assignC rfl rfl rfl) rfl rfl ?_;refine L_nil (T_n (A_seq (A_seq (A_region ?_))))
    refine M0 (q_moveC rfl rfl rfl) rfl rfl ?_;refine M0 (q_len rfl rfl rfl) rfl rfl ?_;refine M0 (q_moveC rfl rfl rfl) rfl rfl ?_;refine M0 (q_len rfl rfl rfl) rfl rfl ?_
    refine M0 (q_neqK rfl rfl rfl rfl (by assumption)) rfl rfl ?_;refine L_nil (T_n ?_);refine A_ifT rfl ?_;refine A_seq (A_region ?_)
    refine M0 (q_assignC rfl rfl rfl) rfl rfl ?_;refine L_nil (T_n (A_ret (T_r (F_r ?_))))
    exact E_tmp rfl rfl (W_end [] (by decide) rfl rfl (B_eq (eq_len hl).symm))
set_option maxHeartbeats 1000000 in
theorem sz_WireSS (xs : List (List TWire)) (left : Int) (hg : Enc.gd xs) (h0 : 0 ≤ left) (h1 : left ≤ 1048576) : Con Tryz.prog 15 [] [al xs,ai left] [] (I (szr (Enc.wt xs) left)) := by
  have hlen := els_len xs
  have hx := hg.1
  have hw : Enc.wt xs = xs.length + wts xs := rfl
  refine Con.of Tryz.func15 rfl Tryz.ntmps15 rfl (fun E => ?_)
  refine A_seq (A_region ?_);refine M0 (q_assignC rfl rfl rfl) rfl rfl ?_;refine L_nil (T_n (A_seq (A_region ?_)));refine M0 (q_moveC rfl rfl rfl) rfl rfl ?_
  refine M0 (q_moveC rfl rfl rfl) rfl rfl ?_;refine M0 (q_len rfl rfl rfl) rfl rfl ?_;refine M0 (q_sub rfl rfl rfl rfl (by omega)) rfl rfl ?_
  refine M0 (q_assignC rfl rfl rfl) rfl rfl ?_;refine L_nil (T_n (A_seq (A_seq (A_region ?_))));refine M0 (q_moveC rfl rfl rfl) rfl rfl ?_
  refine M0 (q_lss rfl rfl rfl rfl) rfl rfl ?_;refine L_nil (T_n ?_)
  refine A_cond rfl (fun h => ?_) (fun h => ?_)
  · refine A_seq (A_region ?_);refine M0 (q_assignC rfl rfl rfl) rfl rfl ?_;refine L_nil (T_n (A_ret (T_r (F_r ?_))))
    have h2 := of_decide_eq_true h
    exact E_tmp rfl rfl (W_end [] (by decide) rfl rfl (I_eq (by rw [szr_neg (by omega)])))
  have h2 : ¬ (left - ((els xs).length : Int) < 0) := of_decide_eq_false h
  refine A_skip (T_n (A_seq (A_seq (A_region ?_))));refine M0 (q_assignC rfl rfl rfl) rfl rfl ?_;refine L_nil (T_n (A_block ?_))
  refine A_loop (fun m st => ∃ k : Nat,k + m = xs.length ∧ (((xs.length : Int) + wts (xs.take k) ≤ left)) ∧ st = (fun k : Nat => (⟨_,[(0,L xs),(1,I (left - (xs.length + wts (xs.take k)))),(5,I k)],[]⟩ : St)) k) (xs.length) ⟨(fun k : Nat => (⟨_,[(0,L xs),(1,I (left - (xs.length + wts (xs.take k)))),(5,I k)],[]⟩ : St)) 0,W_go [] (by decide) rfl (rfl) (.cons rfl (.cons (I_eq (by simp [els,wts])) (.cons rfl (.nil)))),0,by omega,by simp [wts]; omega,rfl⟩ ?_
  rintro m_A _ ⟨k,hk_A,hp_A,rfl⟩
  refine A_seq (A_seq (A_region ?_));refine M0 (q_moveC rfl rfl rfl) rfl rfl ?_;refine M0 (q_moveC rfl rfl rfl) rfl rfl ?_;refine M0 (q_len rfl rfl rfl) rfl rfl ?_
  refine M0 (q_lss rfl rfl rfl rfl) rfl rfl ?_;refine L_nil (T_n ?_)
  refine A_cond rfl (fun h => ?_) (fun h => ?_)
  · have h3 : k < xs.length := by have := of_decide_eq_true h; omega
    have hat := els_at h3
    have hstep := wts_take xs k h3
    have hle := wts_take_le xs (k + 1)
    have hc := sz_WireS xs[k] (left - ((xs.length : Int) + wts (xs.take k))) (hg.2 _ (List.getElem_mem h3)) (by omega) (by omega)
    by_cases h4 : left - ((xs.length : Int) + wts (xs.take k)) < Enc.wt xs[k]
    · rw [szr_neg h4] at hc
      have hb : decide ((-1 : Int) < 0) = true := rfl
      refine A_skip (T_n (A_seq (A_block (A_seq (A_region ?_)))));refine M0 (q_moveC rfl rfl rfl) rfl rfl ?_;refine M0 (q_moveC rfl rfl rfl) rfl rfl ?_
      refine M0 (q_at rfl rfl rfl rfl (by omega) (by assumption) rfl) rfl rfl ?_;refine M0 (q_lr1 rfl rfl rfl rfl) rfl rfl ?_;refine M0 (q_moveC rfl rfl rfl) rfl rfl ?_
      refine M0 (q_call0 rfl rfl (hc) rfl) rfl rfl ?_;refine M0 (q_assignC rfl rfl rfl) rfl rfl ?_;refine L_nil (T_n (A_seq (A_region ?_)))
      refine M0 (q_moveC rfl rfl rfl) rfl rfl ?_;refine M0 (q_lssK rfl rfl rfl rfl (by assumption)) rfl rfl ?_;refine L_nil (T_n ?_);refine A_ifT rfl ?_;refine A_seq ?_
      refine A_region ?_;refine M0 (q_assignC rfl rfl rfl) rfl rfl ?_;refine L_nil (T_n (A_ret (B_r (T_r (T_r (B_r (T_r ?_)))))))
      refine F_r ?_
      exact E_tmp rfl rfl (W_end [] (by decide) rfl rfl (I_eq (by rw [szr_neg (by omega)])))
    · rw [szr_pos (by omega)] at hc
      have hb : decide (left - ((xs.length : Int) + wts (xs.take k)) - Enc.wt xs[k] < 0) = false := decide_eq_false (by omega)
      refine A_skip (T_n (A_seq (A_block (A_seq (A_region ?_)))));refine M0 (q_moveC rfl rfl rfl) rfl rfl ?_;refine M0 (q_moveC rfl rfl rfl) rfl rfl ?_
      refine M0 (q_at rfl rfl rfl rfl (by omega) (by assumption) rfl) rfl rfl ?_;refine M0 (q_lr1 rfl rfl rfl rfl) rfl rfl ?_;refine M0 (q_moveC rfl rfl rfl) rfl rfl ?_
      refine M0 (q_call0 rfl rfl (hc) rfl) rfl rfl ?_;refine M0 (q_assignC rfl rfl rfl) rfl rfl ?_;refine L_nil (T_n (A_seq (A_region ?_)))
      refine M0 (q_moveC rfl rfl rfl) rfl rfl ?_;refine M0 (q_lssK rfl rfl rfl rfl (by assumption)) rfl rfl ?_;refine L_nil (T_n ?_);refine A_ifF rfl ?_;refine A_skip (B_n ?_)
      refine T_n (A_region ?_);refine M0 (q_moveC rfl rfl rfl) rfl rfl ?_;refine M0 (q_add rfl rfl rfl rfl (by omega)) rfl rfl ?_;refine M0 (q_assignC rfl rfl rfl) rfl rfl ?_
      refine L_nil (T_n ?_)
      exact ⟨xs.length - (k + 1),by omega,(fun k : Nat => (⟨_,[(0,L xs),(1,I (left - (xs.length + wts (xs.take k)))),(5,I k)],[]⟩ : St)) (k + 1),W_go [] (by decide) rfl (rfl) (.cons rfl (.cons (I_eq (by rw [hstep]; omega)) (.cons rfl (.nil)))),k + 1,by omega,by omega,rfl⟩
  · have h3 : ¬ ((k : Int) < (els xs).length) := of_decide_eq_false h
    have hk : wts (xs.take k) = wts xs := by rw [List.take_of_length_le (by omega)]
    refine A_exit (T_x (T_x (B_xs (T_n (A_seq (A_region ?_))))));refine M0 (q_moveC rfl rfl rfl) rfl rfl ?_
    refine M0 (q_assignC rfl rfl rfl) rfl rfl ?_;refine L_nil (T_n (A_ret (F_r ?_)))
    exact E_tmp rfl rfl (W_end [] (by decide) rfl rfl (I_eq (by rw [szr_pos (by omega)]; omega)))
set_option maxHeartbeats 1000000 in
theorem to_WireSS (xs : List (List TWire)) (hg : Enc.wt xs ≤ 1048576) : Con Tryz.prog 31 [] [al xs] [.row 1 (els xs)] (.o (.c (.ref 0))) := by
  have hlen := els_len xs
  have hw : Enc.wt xs = xs.length + wts xs := rfl
  refine Con.of Tryz.func31 rfl Tryz.ntmps31 rfl (fun E => ?_)
  refine A_seq (A_region ?_);refine M0 (q_assignC rfl rfl rfl) rfl rfl ?_;refine L_nil (T_n (A_seq (A_region ?_)));refine M0 (q_moveC rfl rfl rfl) rfl rfl ?_
  refine M0 (q_len rfl rfl rfl) rfl rfl ?_;refine M1 (q_make 10 rfl rfl rfl rfl (by omega) (by omega) (by omega) rfl (by decide)) rfl rfl ?_
  refine M0 (q_assignC rfl rfl rfl) rfl rfl ?_;refine L_nil (T_n (A_seq (A_seq (A_region ?_))));refine M0 (q_assignC rfl rfl rfl) rfl rfl ?_;refine L_nil ?_
  refine T_n (A_block ?_)
  refine A_loop (fun m st => ∃ k : Nat,k + m = xs.length ∧ (True) ∧ st = (fun k : Nat => (⟨_,[(0,L xs),(3,.o (.c (.ref 0))),(4,I k)],[.row 1 (part xs [.sl 10 []] k)]⟩ : St)) k) (xs.length) ⟨(fun k : Nat => (⟨_,[(0,L xs),(3,.o (.c (.ref 0))),(4,I k)],[.row 1 (part xs [.sl 10 []] k)]⟩ : St)) 0,W_go [0] (by decide) rfl (row_eq (part_zero xs _)) (.cons rfl (.cons rfl (.cons rfl (.nil)))),0,by omega,trivial,rfl⟩ ?_
  rintro m_A _ ⟨k,hk_A,hp_A,rfl⟩
  refine A_seq (A_seq (A_region ?_));refine M0 (q_moveC rfl rfl rfl) rfl rfl ?_;refine M0 (q_moveC rfl rfl rfl) rfl rfl ?_;refine M0 (q_len rfl rfl rfl) rfl rfl ?_
  refine M0 (q_lss rfl rfl rfl rfl) rfl rfl ?_;refine L_nil (T_n ?_)
  refine A_cond rfl (fun h => ?_) (fun h => ?_)
  · have h3 : k < xs.length := by have := of_decide_eq_true h; omega
    have hat := els_at h3
    have hz := part_at xs [.sl 10 []] h3
    have hpl : (k : Int) < (part xs [.sl 10 []] k).length := by rw [part_len xs _ (by omega)]; omega
    have hwt : Enc.wt xs[k] ≤ wts xs := wts_le xs _ (List.getElem_mem h3)
    have hc := to_WireS xs[k] (by omega)
    refine A_skip (T_n (A_seq (A_block (A_region ?_))));refine M0 (q_moveC rfl rfl rfl) rfl rfl ?_;refine M0 (q_moveC rfl rfl rfl) rfl rfl ?_
    refine M0 (q_moveC rfl rfl rfl) rfl rfl ?_;refine M0 (q_moveC rfl rfl rfl) rfl rfl ?_;refine M0 (q_at rfl rfl rfl rfl (by omega) (by assumption) rfl) rfl rfl ?_
    refine M0 (q_lr1 rfl rfl rfl rfl) rfl rfl ?_;refine M1 (q_call rfl rfl (hc) rfl rfl rfl) rfl rfl ?_;refine M0 (q_ar rfl rfl rfl rfl rfl (by omega) (by assumption)) rfl rfl ?_
    refine M_ste1 rfl rfl rfl rfl rfl rfl rfl rfl rfl (by assumption) rfl rfl ?_;refine L_nil (B_n (T_n (A_region ?_)));refine M0 (q_moveC rfl rfl rfl) rfl rfl ?_
    refine M0 (q_add rfl rfl rfl rfl (by omega)) rfl rfl ?_;refine M0 (q_assignC rfl rfl rfl) rfl rfl ?_;refine L_nil (T_n ?_)
    exact ⟨xs.length - (k + 1),by omega,(fun k : Nat => (⟨_,[(0,L xs),(3,.o (.c (.ref 0))),(4,I k)],[.row 1 (part xs [.sl 10 []] k)]⟩ : St)) (k + 1),W_go [0] (by decide) rfl (row_eq (part_set xs [.sl 10 []] h3 _ (by rfl) (by rfl)).symm) (.cons rfl (.cons rfl (.cons rfl (.nil)))),k + 1,by omega,trivial,rfl⟩
  · have h3 : ¬ ((k : Int) < (els xs).length) := of_decide_eq_false h
    refine A_exit (T_x (T_x (B_xs (T_n (A_seq (A_region ?_))))));refine M0 (q_moveC rfl rfl rfl) rfl rfl ?_
    refine M0 (q_assignC rfl rfl rfl) rfl rfl ?_;refine L_nil (T_n (A_ret (F_r ?_)))
    exact E_tmp rfl rfl (W_end [0] (by decide) rfl (row_eq (part_all xs _ (by omega)).symm) rfl)
set_option maxHeartbeats 1000000 in
theorem eq_WireSS (xs ys : List (List TWire)) (hn : Enc.gd xs) : Con Tryz.prog 45 [] [al xs,al ys] [] (B (decide (xs = ys))) := by
  have hn1 := hn.1
  have hlx := els_len xs
  have hly := els_len ys
  by_cases hl : xs.length = ys.length
  · have hb : decide (((els xs).length : Int) ≠ ((els ys).length : Int)) = false := by rw [hlx,hly,hl]; simp
    refine Con.of Tryz.func45 rfl Tryz.ntmps45 rfl (fun E => ?_)
    refine A_seq (A_region ?_);refine M0 (q_assignC rfl rfl rfl) rfl rfl ?_;refine L_nil (T_n (A_seq (A_seq (A_region ?_))))
    refine M0 (q_moveC rfl rfl rfl) rfl rfl ?_;refine M0 (q_len rfl rfl rfl) rfl rfl ?_;refine M0 (q_moveC rfl rfl rfl) rfl rfl ?_;refine M0 (q_len rfl rfl rfl) rfl rfl ?_
    refine M0 (q_neqK rfl rfl rfl rfl (by assumption)) rfl rfl ?_;refine L_nil (T_n ?_);refine A_ifF rfl ?_;refine A_skip (T_n (A_seq (A_seq ?_)))
    refine A_region ?_;refine M0 (q_assignC rfl rfl rfl) rfl rfl ?_;refine L_nil (T_n (A_block ?_))
    refine A_loop (fun m st => ∃ k : Nat,k + m = xs.length ∧ (xs.take k = ys.take k) ∧ st = (fun k : Nat => (⟨_,[(0,L xs),(1,L ys),(5,I k)],[]⟩ : St)) k) (xs.length) ⟨(fun k : Nat => (⟨_,[(0,L xs),(1,L ys),(5,I k)],[]⟩ : St)) 0,W_go [] (by decide) rfl (rfl) (.cons rfl (.cons rfl (.cons rfl (.nil)))),0,by omega,by simp,rfl⟩ ?_
    rintro m_A _ ⟨k,hk_A,hp_A,rfl⟩
    refine A_seq (A_seq (A_region ?_));refine M0 (q_moveC rfl rfl rfl) rfl rfl ?_;refine M0 (q_moveC rfl rfl rfl) rfl rfl ?_;refine M0 (q_len rfl rfl rfl) rfl rfl ?_
    refine M0 (q_lss rfl rfl rfl rfl) rfl rfl ?_;refine L_nil (T_n ?_)
    refine A_cond rfl (fun h => ?_) (fun h => ?_)
    · have h3 : k < xs.length := by have := of_decide_eq_true h; omega
      have h4 : k < ys.length := by omega
      have hat := els_at h3
      have hat2 := els_at h4
      have hc := eq_WireS xs[k] ys[k] (hn.2 _ (List.getElem_mem h3))
      by_cases he : xs[k] = ys[k]
      · rw [decide_eq_true he] at hc
        refine A_skip (T_n (A_seq (A_block (A_seq ?_))))
        refine A_draw [[],[],[0,1],[0,1,2],[],[],[4,5],[4,5,6],[0,1,2,3,4,5,6,7],[0,1,2,3,4,5,6,7,8]] [[],[],[17,18],[17,18,19],[],[],[21,22],[21,22,23],[17,18,19,20,21,22,23,24],[17,18,19,20,21,22,23,24,25]] [[18,21,22,23,24],[17,21,22,23,24],[21,22,23,24],[21,22,23,24],[17,18,19,20,22],[17,18,19,20,21],[17,18,19,20],[17,18,19,20],[],[]] rfl ?_
        refine DR.step (q_moveC rfl rfl rfl) rfl rfl ?_;refine DR.step (q_moveC rfl rfl rfl) rfl rfl ?_;refine DR.step (q_at rfl rfl rfl rfl (by omega) (by assumption) rfl) rfl rfl ?_
        refine DR.step (q_lr1 rfl rfl rfl rfl) rfl rfl ?_;refine DR.step (q_moveC rfl rfl rfl) rfl rfl ?_;refine DR.step (q_moveC rfl rfl rfl) rfl rfl ?_
        refine DR.step (q_at rfl rfl rfl rfl (by omega) (by assumption) rfl) rfl rfl ?_;refine DR.step (q_lr1 rfl rfl rfl rfl) rfl rfl ?_;refine DR.step (q_call0 rfl rfl (hc) rfl) rfl rfl ?_
        refine DR.step (q_not rfl rfl rfl) rfl rfl ?_;refine DR.stop (by kernel_rfl) (by kernel_rfl) ?_
        refine L_nil (T_n ?_);refine A_ifF rfl ?_;refine A_skip (B_n (T_n (A_region ?_)));refine M0 (q_moveC rfl rfl rfl) rfl rfl ?_
        refine M0 (q_add rfl rfl rfl rfl (by omega)) rfl rfl ?_;refine M0 (q_assignC rfl rfl rfl) rfl rfl ?_;refine L_nil (T_n ?_)
        exact ⟨xs.length - (k + 1),by omega,(fun k : Nat => (⟨_,[(0,L xs),(1,L ys),(5,I k)],[]⟩ : St)) (k + 1),W_go [] (by decide) rfl (rfl) (.cons rfl (.cons rfl (.cons rfl (.nil)))),k + 1,by omega,eq_next h3 h4 hp_A he,rfl⟩
      · rw [decide_eq_false he] at hc
        refine A_skip (T_n (A_seq (A_block (A_seq ?_))))
        refine A_draw [[],[],[0,1],[0,1,2],[],[],[4,5],[4,5,6],[0,1,2,3,4,5,6,7],[0,1,2,3,4,5,6,7,8]] [[],[],[17,18],[17,18,19],[],[],[21,22],[21,22,23],[17,18,19,20,21,22,23,24],[17,18,19,20,21,22,23,24,25]] [[18,21,22,23,24],[17,21,22,23,24],[21,22,23,24],[21,22,23,24],[17,18,19,20,22],[17,18,19,20,21],[17,18,19,20],[17,18,19,20],[],[]] rfl ?_
        refine DR.step (q_moveC rfl rfl rfl) rfl rfl ?_;refine DR.step (q_moveC rfl rfl rfl) rfl rfl ?_;refine DR.step (q_at rfl rfl rfl rfl (by omega) (by assumption) rfl) rfl rfl ?_
        refine DR.step (q_lr1 rfl rfl rfl rfl) rfl rfl ?_;refine DR.step (q_moveC rfl rfl rfl) rfl rfl ?_;refine DR.step (q_moveC rfl rfl rfl) rfl rfl ?_
        refine DR.step (q_at rfl rfl rfl rfl (by omega) (by assumption) rfl) rfl rfl ?_;refine DR.step (q_lr1 rfl rfl rfl rfl) rfl rfl ?_;refine DR.step (q_call0 rfl rfl (hc) rfl) rfl rfl ?_
        refine DR.step (q_not rfl rfl rfl) rfl rfl ?_;refine DR.stop (by kernel_rfl) (by kernel_rfl) ?_
        refine L_nil (T_n ?_);refine A_ifT rfl ?_;refine A_seq (A_region ?_);refine M0 (q_assignC rfl rfl rfl) rfl rfl ?_;refine L_nil (T_n (A_ret (B_r ?_)))
        refine T_r (T_r (B_r (T_r (F_r ?_))))
        exact E_tmp rfl rfl (W_end [] (by decide) rfl rfl (B_eq (eq_ne h3 h4 he).symm))
    · have h3 : ¬ ((k : Int) < (els xs).length) := of_decide_eq_false h
      refine A_exit (T_x (T_x (B_xs (T_n (A_seq (A_region ?_))))));refine M0 (q_assignC rfl rfl rfl) rfl rfl ?_;refine L_nil (T_n ?_)
      refine A_ret (F_r ?_)
      exact E_tmp rfl rfl (W_end [] (by decide) rfl rfl (B_eq (eq_all (by omega) hl hp_A).symm))
  · have hb : decide (((els xs).length : Int) ≠ ((els ys).length : Int)) = true := by rw [hlx,hly]; simp; omega
    refine Con.of Tryz.func45 rfl Tryz.ntmps45 rfl (fun E => ?_)
    refine A_seq (A_region ?_);refine M0 (q_assignC rfl rfl rfl) rfl rfl ?_;refine L_nil (T_n (A_seq (A_seq (A_region ?_))))
    refine M0 (q_moveC rfl rfl rfl) rfl rfl ?_;refine M0 (q_len rfl rfl rfl) rfl rfl ?_;refine M0 (q_moveC rfl rfl rfl) rfl rfl ?_;refine M0 (q_len rfl rfl rfl) rfl rfl ?_
    refine M0 (q_neqK rfl rfl rfl rfl (by assumption)) rfl rfl ?_;refine L_nil (T_n ?_);refine A_ifT rfl ?_;refine A_seq (A_region ?_)
    refine M0 (q_assignC rfl rfl rfl) rfl rfl ?_;refine L_nil (T_n (A_ret (T_r (F_r ?_))))
    exact E_tmp rfl rfl (W_end [] (by decide) rfl rfl (B_eq (eq_len hl).symm))
set_option maxHeartbeats 1000000 in
theorem sz_PaceSS (xs : List (List TPace)) (left : Int) (hg : Enc.gd xs) (h0 : 0 ≤ left) (h1 : left ≤ 1048576) : Con Tryz.prog 16 [] [al xs,ai left] [] (I (szr (Enc.wt xs) left)) := by
  have hlen := els_len xs
  have hx := hg.1
  have hw : Enc.wt xs = xs.length + wts xs := rfl
  refine Con.of Tryz.func16 rfl Tryz.ntmps16 rfl (fun E => ?_)
  refine A_seq (A_region ?_);refine M0 (q_assignC rfl rfl rfl) rfl rfl ?_;refine L_nil (T_n (A_seq (A_region ?_)));refine M0 (q_moveC rfl rfl rfl) rfl rfl ?_
  refine M0 (q_moveC rfl rfl rfl) rfl rfl ?_;refine M0 (q_len rfl rfl rfl) rfl rfl ?_;refine M0 (q_sub rfl rfl rfl rfl (by omega)) rfl rfl ?_
  refine M0 (q_assignC rfl rfl rfl) rfl rfl ?_;refine L_nil (T_n (A_seq (A_seq (A_region ?_))));refine M0 (q_moveC rfl rfl rfl) rfl rfl ?_
  refine M0 (q_lss rfl rfl rfl rfl) rfl rfl ?_;refine L_nil (T_n ?_)
  refine A_cond rfl (fun h => ?_) (fun h => ?_)
  · refine A_seq (A_region ?_);refine M0 (q_assignC rfl rfl rfl) rfl rfl ?_;refine L_nil (T_n (A_ret (T_r (F_r ?_))))
    have h2 := of_decide_eq_true h
    exact E_tmp rfl rfl (W_end [] (by decide) rfl rfl (I_eq (by rw [szr_neg (by omega)])))
  have h2 : ¬ (left - ((els xs).length : Int) < 0) := of_decide_eq_false h
  refine A_skip (T_n (A_seq (A_seq (A_region ?_))));refine M0 (q_assignC rfl rfl rfl) rfl rfl ?_;refine L_nil (T_n (A_block ?_))
  refine A_loop (fun m st => ∃ k : Nat,k + m = xs.length ∧ (((xs.length : Int) + wts (xs.take k) ≤ left)) ∧ st = (fun k : Nat => (⟨_,[(0,L xs),(1,I (left - (xs.length + wts (xs.take k)))),(5,I k)],[]⟩ : St)) k) (xs.length) ⟨(fun k : Nat => (⟨_,[(0,L xs),(1,I (left - (xs.length + wts (xs.take k)))),(5,I k)],[]⟩ : St)) 0,W_go [] (by decide) rfl (rfl) (.cons rfl (.cons (I_eq (by simp [els,wts])) (.cons rfl (.nil)))),0,by omega,by simp [wts]; omega,rfl⟩ ?_
  rintro m_A _ ⟨k,hk_A,hp_A,rfl⟩
  refine A_seq (A_seq (A_region ?_));refine M0 (q_moveC rfl rfl rfl) rfl rfl ?_;refine M0 (q_moveC rfl rfl rfl) rfl rfl ?_;refine M0 (q_len rfl rfl rfl) rfl rfl ?_
  refine M0 (q_lss rfl rfl rfl rfl) rfl rfl ?_;refine L_nil (T_n ?_)
  refine A_cond rfl (fun h => ?_) (fun h => ?_)
  · have h3 : k < xs.length := by have := of_decide_eq_true h; omega
    have hat := els_at h3
    have hstep := wts_take xs k h3
    have hle := wts_take_le xs (k + 1)
    have hc := sz_PaceS xs[k] (left - ((xs.length : Int) + wts (xs.take k))) (hg.2 _ (List.getElem_mem h3)) (by omega) (by omega)
    by_cases h4 : left - ((xs.length : Int) + wts (xs.take k)) < Enc.wt xs[k]
    · rw [szr_neg h4] at hc
      have hb : decide ((-1 : Int) < 0) = true := rfl
      refine A_skip (T_n (A_seq (A_block (A_seq (A_region ?_)))));refine M0 (q_moveC rfl rfl rfl) rfl rfl ?_;refine M0 (q_moveC rfl rfl rfl) rfl rfl ?_
      refine M0 (q_at rfl rfl rfl rfl (by omega) (by assumption) rfl) rfl rfl ?_;refine M0 (q_lr1 rfl rfl rfl rfl) rfl rfl ?_;refine M0 (q_moveC rfl rfl rfl) rfl rfl ?_
      refine M0 (q_call0 rfl rfl (hc) rfl) rfl rfl ?_;refine M0 (q_assignC rfl rfl rfl) rfl rfl ?_;refine L_nil (T_n (A_seq (A_region ?_)))
      refine M0 (q_moveC rfl rfl rfl) rfl rfl ?_;refine M0 (q_lssK rfl rfl rfl rfl (by assumption)) rfl rfl ?_;refine L_nil (T_n ?_);refine A_ifT rfl ?_;refine A_seq ?_
      refine A_region ?_;refine M0 (q_assignC rfl rfl rfl) rfl rfl ?_;refine L_nil (T_n (A_ret (B_r (T_r (T_r (B_r (T_r ?_)))))))
      refine F_r ?_
      exact E_tmp rfl rfl (W_end [] (by decide) rfl rfl (I_eq (by rw [szr_neg (by omega)])))
    · rw [szr_pos (by omega)] at hc
      have hb : decide (left - ((xs.length : Int) + wts (xs.take k)) - Enc.wt xs[k] < 0) = false := decide_eq_false (by omega)
      refine A_skip (T_n (A_seq (A_block (A_seq (A_region ?_)))));refine M0 (q_moveC rfl rfl rfl) rfl rfl ?_;refine M0 (q_moveC rfl rfl rfl) rfl rfl ?_
      refine M0 (q_at rfl rfl rfl rfl (by omega) (by assumption) rfl) rfl rfl ?_;refine M0 (q_lr1 rfl rfl rfl rfl) rfl rfl ?_;refine M0 (q_moveC rfl rfl rfl) rfl rfl ?_
      refine M0 (q_call0 rfl rfl (hc) rfl) rfl rfl ?_;refine M0 (q_assignC rfl rfl rfl) rfl rfl ?_;refine L_nil (T_n (A_seq (A_region ?_)))
      refine M0 (q_moveC rfl rfl rfl) rfl rfl ?_;refine M0 (q_lssK rfl rfl rfl rfl (by assumption)) rfl rfl ?_;refine L_nil (T_n ?_);refine A_ifF rfl ?_;refine A_skip (B_n ?_)
      refine T_n (A_region ?_);refine M0 (q_moveC rfl rfl rfl) rfl rfl ?_;refine M0 (q_add rfl rfl rfl rfl (by omega)) rfl rfl ?_;refine M0 (q_assignC rfl rfl rfl) rfl rfl ?_
      refine L_nil (T_n ?_)
      exact ⟨xs.length - (k + 1),by omega,(fun k : Nat => (⟨_,[(0,L xs),(1,I (left - (xs.length + wts (xs.take k)))),(5,I k)],[]⟩ : St)) (k + 1),W_go [] (by decide) rfl (rfl) (.cons rfl (.cons (I_eq (by rw [hstep]; omega)) (.cons rfl (.nil)))),k + 1,by omega,by omega,rfl⟩
  · have h3 : ¬ ((k : Int) < (els xs).length) := of_decide_eq_false h
    have hk : wts (xs.take k) = wts xs := by rw [List.take_of_length_le (by omega)]
    refine A_exit (T_x (T_x (B_xs (T_n (A_seq (A_region ?_))))));refine M0 (q_moveC rfl rfl rfl) rfl rfl ?_
    refine M0 (q_assignC rfl rfl rfl) rfl rfl ?_;refine L_nil (T_n (A_ret (F_r ?_)))
    exact E_tmp rfl rfl (W_end [] (by decide) rfl rfl (I_eq (by rw [szr_pos (by omega)]; omega)))
set_option maxHeartbeats 1000000 in
theorem to_PaceSS (xs : List (List TPace)) (hg : Enc.wt xs ≤ 1048576) : Con Tryz.prog 32 [] [al xs] [.row 1 (els xs)] (.o (.c (.ref 0))) := by
  have hlen := els_len xs
  have hw : Enc.wt xs = xs.length + wts xs := rfl
  refine Con.of Tryz.func32 rfl Tryz.ntmps32 rfl (fun E => ?_)
  refine A_seq (A_region ?_);refine M0 (q_assignC rfl rfl rfl) rfl rfl ?_;refine L_nil (T_n (A_seq (A_region ?_)));refine M0 (q_moveC rfl rfl rfl) rfl rfl ?_
  refine M0 (q_len rfl rfl rfl) rfl rfl ?_;refine M1 (q_make 5 rfl rfl rfl rfl (by omega) (by omega) (by omega) rfl (by decide)) rfl rfl ?_;refine M0 (q_assignC rfl rfl rfl) rfl rfl ?_
  refine L_nil (T_n (A_seq (A_seq (A_region ?_))));refine M0 (q_assignC rfl rfl rfl) rfl rfl ?_;refine L_nil (T_n (A_block ?_))
  refine A_loop (fun m st => ∃ k : Nat,k + m = xs.length ∧ (True) ∧ st = (fun k : Nat => (⟨_,[(0,L xs),(3,.o (.c (.ref 0))),(4,I k)],[.row 1 (part xs [.sl 5 []] k)]⟩ : St)) k) (xs.length) ⟨(fun k : Nat => (⟨_,[(0,L xs),(3,.o (.c (.ref 0))),(4,I k)],[.row 1 (part xs [.sl 5 []] k)]⟩ : St)) 0,W_go [0] (by decide) rfl (row_eq (part_zero xs _)) (.cons rfl (.cons rfl (.cons rfl (.nil)))),0,by omega,trivial,rfl⟩ ?_
  rintro m_A _ ⟨k,hk_A,hp_A,rfl⟩
  refine A_seq (A_seq (A_region ?_));refine M0 (q_moveC rfl rfl rfl) rfl rfl ?_;refine M0 (q_moveC rfl rfl rfl) rfl rfl ?_;refine M0 (q_len rfl rfl rfl) rfl rfl ?_
  refine M0 (q_lss rfl rfl rfl rfl) rfl rfl ?_;refine L_nil (T_n ?_)
  refine A_cond rfl (fun h => ?_) (fun h => ?_)
  · have h3 : k < xs.length := by have := of_decide_eq_true h; omega
    have hat := els_at h3
    have hz := part_at xs [.sl 5 []] h3
    have hpl : (k : Int) < (part xs [.sl 5 []] k).length := by rw [part_len xs _ (by omega)]; omega
    have hwt : Enc.wt xs[k] ≤ wts xs := wts_le xs _ (List.getElem_mem h3)
    have hc := to_PaceS xs[k] (by omega)
    refine A_skip (T_n (A_seq (A_block (A_region ?_))));refine M0 (q_moveC rfl rfl rfl) rfl rfl ?_;refine M0 (q_moveC rfl rfl rfl) rfl rfl ?_
    refine M0 (q_moveC rfl rfl rfl) rfl rfl ?_;refine M0 (q_moveC rfl rfl rfl) rfl rfl ?_;refine M0 (q_at rfl rfl rfl rfl (by omega) (by assumption) rfl) rfl rfl ?_
    refine M0 (q_lr1 rfl rfl rfl rfl) rfl rfl ?_;refine M1 (q_call rfl rfl (hc) rfl rfl rfl) rfl rfl ?_;refine M0 (q_ar rfl rfl rfl rfl rfl (by omega) (by assumption)) rfl rfl ?_
    refine M_ste1 rfl rfl rfl rfl rfl rfl rfl rfl rfl (by assumption) rfl rfl ?_;refine L_nil (B_n (T_n (A_region ?_)));refine M0 (q_moveC rfl rfl rfl) rfl rfl ?_
    refine M0 (q_add rfl rfl rfl rfl (by omega)) rfl rfl ?_;refine M0 (q_assignC rfl rfl rfl) rfl rfl ?_;refine L_nil (T_n ?_)
    exact ⟨xs.length - (k + 1),by omega,(fun k : Nat => (⟨_,[(0,L xs),(3,.o (.c (.ref 0))),(4,I k)],[.row 1 (part xs [.sl 5 []] k)]⟩ : St)) (k + 1),W_go [0] (by decide) rfl (row_eq (part_set xs [.sl 5 []] h3 _ (by rfl) (by rfl)).symm) (.cons rfl (.cons rfl (.cons rfl (.nil)))),k + 1,by omega,trivial,rfl⟩
  · have h3 : ¬ ((k : Int) < (els xs).length) := of_decide_eq_false h
    refine A_exit (T_x (T_x (B_xs (T_n (A_seq (A_region ?_))))));refine M0 (q_moveC rfl rfl rfl) rfl rfl ?_
    refine M0 (q_assignC rfl rfl rfl) rfl rfl ?_;refine L_nil (T_n (A_ret (F_r ?_)))
    exact E_tmp rfl rfl (W_end [0] (by decide) rfl (row_eq (part_all xs _ (by omega)).symm) rfl)
set_option maxHeartbeats 1000000 in
theorem eq_PaceSS (xs ys : List (List TPace)) (hn : Enc.gd xs) : Con Tryz.prog 46 [] [al xs,al ys] [] (B (decide (xs = ys))) := by
  have hn1 := hn.1
  have hlx := els_len xs
  have hly := els_len ys
  by_cases hl : xs.length = ys.length
  · have hb : decide (((els xs).length : Int) ≠ ((els ys).length : Int)) = false := by rw [hlx,hly,hl]; simp
    refine Con.of Tryz.func46 rfl Tryz.ntmps46 rfl (fun E => ?_)
    refine A_seq (A_region ?_);refine M0 (q_assignC rfl rfl rfl) rfl rfl ?_;refine L_nil (T_n (A_seq (A_seq (A_region ?_))))
    refine M0 (q_moveC rfl rfl rfl) rfl rfl ?_;refine M0 (q_len rfl rfl rfl) rfl rfl ?_;refine M0 (q_moveC rfl rfl rfl) rfl rfl ?_;refine M0 (q_len rfl rfl rfl) rfl rfl ?_
    refine M0 (q_neqK rfl rfl rfl rfl (by assumption)) rfl rfl ?_;refine L_nil (T_n ?_);refine A_ifF rfl ?_;refine A_skip (T_n (A_seq (A_seq ?_)))
    refine A_region ?_;refine M0 (q_assignC rfl rfl rfl) rfl rfl ?_;refine L_nil (T_n (A_block ?_))
    refine A_loop (fun m st => ∃ k : Nat,k + m = xs.length ∧ (xs.take k = ys.take k) ∧ st = (fun k : Nat => (⟨_,[(0,L xs),(1,L ys),(5,I k)],[]⟩ : St)) k) (xs.length) ⟨(fun k : Nat => (⟨_,[(0,L xs),(1,L ys),(5,I k)],[]⟩ : St)) 0,W_go [] (by decide) rfl (rfl) (.cons rfl (.cons rfl (.cons rfl (.nil)))),0,by omega,by simp,rfl⟩ ?_
    rintro m_A _ ⟨k,hk_A,hp_A,rfl⟩
    refine A_seq (A_seq (A_region ?_));refine M0 (q_moveC rfl rfl rfl) rfl rfl ?_;refine M0 (q_moveC rfl rfl rfl) rfl rfl ?_;refine M0 (q_len rfl rfl rfl) rfl rfl ?_
    refine M0 (q_lss rfl rfl rfl rfl) rfl rfl ?_;refine L_nil (T_n ?_)
    refine A_cond rfl (fun h => ?_) (fun h => ?_)
    · have h3 : k < xs.length := by have := of_decide_eq_true h; omega
      have h4 : k < ys.length := by omega
      have hat := els_at h3
      have hat2 := els_at h4
      have hc := eq_PaceS xs[k] ys[k] (hn.2 _ (List.getElem_mem h3))
      by_cases he : xs[k] = ys[k]
      · rw [decide_eq_true he] at hc
        refine A_skip (T_n (A_seq (A_block (A_seq ?_))))
        refine A_draw [[],[],[0,1],[0,1,2],[],[],[4,5],[4,5,6],[0,1,2,3,4,5,6,7],[0,1,2,3,4,5,6,7,8]] [[],[],[17,18],[17,18,19],[],[],[21,22],[21,22,23],[17,18,19,20,21,22,23,24],[17,18,19,20,21,22,23,24,25]] [[18,21,22,23,24],[17,21,22,23,24],[21,22,23,24],[21,22,23,24],[17,18,19,20,22],[17,18,19,20,21],[17,18,19,20],[17,18,19,20],[],[]] rfl ?_
        refine DR.step (q_moveC rfl rfl rfl) rfl rfl ?_;refine DR.step (q_moveC rfl rfl rfl) rfl rfl ?_;refine DR.step (q_at rfl rfl rfl rfl (by omega) (by assumption) rfl) rfl rfl ?_
        refine DR.step (q_lr1 rfl rfl rfl rfl) rfl rfl ?_;refine DR.step (q_moveC rfl rfl rfl) rfl rfl ?_;refine DR.step (q_moveC rfl rfl rfl) rfl rfl ?_
        refine DR.step (q_at rfl rfl rfl rfl (by omega) (by assumption) rfl) rfl rfl ?_;refine DR.step (q_lr1 rfl rfl rfl rfl) rfl rfl ?_;refine DR.step (q_call0 rfl rfl (hc) rfl) rfl rfl ?_
        refine DR.step (q_not rfl rfl rfl) rfl rfl ?_;refine DR.stop (by kernel_rfl) (by kernel_rfl) ?_
        refine L_nil (T_n ?_);refine A_ifF rfl ?_;refine A_skip (B_n (T_n (A_region ?_)));refine M0 (q_moveC rfl rfl rfl) rfl rfl ?_
        refine M0 (q_add rfl rfl rfl rfl (by omega)) rfl rfl ?_;refine M0 (q_assignC rfl rfl rfl) rfl rfl ?_;refine L_nil (T_n ?_)
        exact ⟨xs.length - (k + 1),by omega,(fun k : Nat => (⟨_,[(0,L xs),(1,L ys),(5,I k)],[]⟩ : St)) (k + 1),W_go [] (by decide) rfl (rfl) (.cons rfl (.cons rfl (.cons rfl (.nil)))),k + 1,by omega,eq_next h3 h4 hp_A he,rfl⟩
      · rw [decide_eq_false he] at hc
        refine A_skip (T_n (A_seq (A_block (A_seq ?_))))
        refine A_draw [[],[],[0,1],[0,1,2],[],[],[4,5],[4,5,6],[0,1,2,3,4,5,6,7],[0,1,2,3,4,5,6,7,8]] [[],[],[17,18],[17,18,19],[],[],[21,22],[21,22,23],[17,18,19,20,21,22,23,24],[17,18,19,20,21,22,23,24,25]] [[18,21,22,23,24],[17,21,22,23,24],[21,22,23,24],[21,22,23,24],[17,18,19,20,22],[17,18,19,20,21],[17,18,19,20],[17,18,19,20],[],[]] rfl ?_
        refine DR.step (q_moveC rfl rfl rfl) rfl rfl ?_;refine DR.step (q_moveC rfl rfl rfl) rfl rfl ?_;refine DR.step (q_at rfl rfl rfl rfl (by omega) (by assumption) rfl) rfl rfl ?_
        refine DR.step (q_lr1 rfl rfl rfl rfl) rfl rfl ?_;refine DR.step (q_moveC rfl rfl rfl) rfl rfl ?_;refine DR.step (q_moveC rfl rfl rfl) rfl rfl ?_
        refine DR.step (q_at rfl rfl rfl rfl (by omega) (by assumption) rfl) rfl rfl ?_;refine DR.step (q_lr1 rfl rfl rfl rfl) rfl rfl ?_;refine DR.step (q_call0 rfl rfl (hc) rfl) rfl rfl ?_
        refine DR.step (q_not rfl rfl rfl) rfl rfl ?_;refine DR.stop (by kernel_rfl) (by kernel_rfl) ?_
        refine L_nil (T_n ?_);refine A_ifT rfl ?_;refine A_seq (A_region ?_);refine M0 (q_assignC rfl rfl rfl) rfl rfl ?_;refine L_nil (T_n (A_ret (B_r ?_)))
        refine T_r (T_r (B_r (T_r (F_r ?_))))
        exact E_tmp rfl rfl (W_end [] (by decide) rfl rfl (B_eq (eq_ne h3 h4 he).symm))
    · have h3 : ¬ ((k : Int) < (els xs).length) := of_decide_eq_false h
      refine A_exit (T_x (T_x (B_xs (T_n (A_seq (A_region ?_))))));refine M0 (q_assignC rfl rfl rfl) rfl rfl ?_;refine L_nil (T_n ?_)
      refine A_ret (F_r ?_)
      exact E_tmp rfl rfl (W_end [] (by decide) rfl rfl (B_eq (eq_all (by omega) hl hp_A).symm))
  · have hb : decide (((els xs).length : Int) ≠ ((els ys).length : Int)) = true := by rw [hlx,hly]; simp; omega
    refine Con.of Tryz.func46 rfl Tryz.ntmps46 rfl (fun E => ?_)
    refine A_seq (A_region ?_);refine M0 (q_assignC rfl rfl rfl) rfl rfl ?_;refine L_nil (T_n (A_seq (A_seq (A_region ?_))))
    refine M0 (q_moveC rfl rfl rfl) rfl rfl ?_;refine M0 (q_len rfl rfl rfl) rfl rfl ?_;refine M0 (q_moveC rfl rfl rfl) rfl rfl ?_;refine M0 (q_len rfl rfl rfl) rfl rfl ?_
    refine M0 (q_neqK rfl rfl rfl rfl (by assumption)) rfl rfl ?_;refine L_nil (T_n ?_);refine A_ifT rfl ?_;refine A_seq (A_region ?_)
    refine M0 (q_assignC rfl rfl rfl) rfl rfl ?_;refine L_nil (T_n (A_ret (T_r (F_r ?_))))
    exact E_tmp rfl rfl (W_end [] (by decide) rfl rfl (B_eq (eq_len hl).symm))
end Go.Proofs.YtbpebmolbdplmaaGreat
end

section
set_option linter.unusedVariables false
set_option linter.unusedSimpArgs false
set_option maxRecDepth 8000
namespace Go.Proofs.YtbpebmolbdplmaaGreat
open Go.RowKit

set_option maxHeartbeats 1000000 in
theorem sz_PeerS (xs : List TPeer) (left : Int) (hg : Enc.gd xs) (h0 : 0 ≤ left) (h1 : left ≤ 1048576) : Con Tryz.prog 14 [] [al xs,ai left] [] (I (szr (Enc.wt xs) left)) := by
  have hlen := els_len xs
  have hx := hg.1
  have hw : Enc.wt xs = xs.length + wts xs := rfl
  refine Con.of Tryz.func14 rfl Tryz.ntmps14 rfl (fun E => ?_)
  refine A_seq (A_region ?_);refine M0 (q_assignC rfl rfl rfl) rfl rfl ?_;refine L_nil (T_n (A_seq (A_region ?_)));refine M0 (q_moveC rfl rfl rfl) rfl rfl ?_
  refine M0 (q_moveC rfl rfl rfl) rfl rfl ?_;refine M0 (q_len rfl rfl rfl) rfl rfl ?_;refine M0 (q_sub rfl rfl rfl rfl (by omega)) rfl rfl ?_
  refine M0 (q_assignC rfl rfl rfl) rfl rfl ?_;refine L_nil (T_n (A_seq (A_seq (A_region ?_))));refine M0 (q_moveC rfl rfl rfl) rfl rfl ?_
  refine M0 (q_lss rfl rfl rfl rfl) rfl rfl ?_;refine L_nil (T_n ?_)
  refine A_cond rfl (fun h => ?_) (fun h => ?_)
  · refine A_seq (A_region ?_);refine M0 (q_assignC rfl rfl rfl) rfl rfl ?_;refine L_nil (T_n (A_ret (T_r (F_r ?_))))
    have h2 := of_decide_eq_true h
    exact E_tmp rfl rfl (W_end [] (by decide) rfl rfl (I_eq (by rw [szr_neg (by omega)])))
  have h2 : ¬ (left - ((els xs).length : Int) < 0) := of_decide_eq_false h
  refine A_skip (T_n (A_seq (A_seq (A_region ?_))));refine M0 (q_assignC rfl rfl rfl) rfl rfl ?_;refine L_nil (T_n (A_block ?_))
  refine A_loop (fun m st => ∃ k : Nat,k + m = xs.length ∧ (((xs.length : Int) + wts (xs.take k) ≤ left)) ∧ st = (fun k : Nat => (⟨_,[(0,L xs),(1,I (left - (xs.length + wts (xs.take k)))),(5,I k)],[]⟩ : St)) k) (xs.length) ⟨(fun k : Nat => (⟨_,[(0,L xs),(1,I (left - (xs.length + wts (xs.take k)))),(5,I k)],[]⟩ : St)) 0,W_go [] (by decide) rfl (rfl) (.cons rfl (.cons (I_eq (by simp [els,wts])) (.cons rfl (.nil)))),0,by omega,by simp [wts]; omega,rfl⟩ ?_
  rintro m_A _ ⟨k,hk_A,hp_A,rfl⟩
  refine A_seq (A_seq (A_region ?_));refine M0 (q_moveC rfl rfl rfl) rfl rfl ?_;refine M0 (q_moveC rfl rfl rfl) rfl rfl ?_;refine M0 (q_len rfl rfl rfl) rfl rfl ?_
  refine M0 (q_lss rfl rfl rfl rfl) rfl rfl ?_;refine L_nil (T_n ?_)
  refine A_cond rfl (fun h => ?_) (fun h => ?_)
  · have h3 : k < xs.length := by have := of_decide_eq_true h; omega
    have hat := els_at h3
    have hstep := wts_take xs k h3
    have hle := wts_take_le xs (k + 1)
    have hc := sz_Peer xs[k] (left - ((xs.length : Int) + wts (xs.take k))) (hg.2 _ (List.getElem_mem h3)) (by omega) (by omega)
    by_cases h4 : left - ((xs.length : Int) + wts (xs.take k)) < Enc.wt xs[k]
    · rw [szr_neg h4] at hc
      have hb : decide ((-1 : Int) < 0) = true := rfl
      refine A_skip (T_n (A_seq (A_block (A_seq (A_region ?_)))));refine M0 (q_moveC rfl rfl rfl) rfl rfl ?_;refine M0 (q_moveC rfl rfl rfl) rfl rfl ?_
      refine M0 (q_at rfl rfl rfl rfl (by omega) (by assumption) rfl) rfl rfl ?_;refine M0 (q_lrN rfl rfl rfl rfl rfl) rfl rfl ?_;refine M0 (q_moveC rfl rfl rfl) rfl rfl ?_
      refine M0 (q_call0 rfl rfl (hc) rfl) rfl rfl ?_;refine M0 (q_assignC rfl rfl rfl) rfl rfl ?_;refine L_nil (T_n (A_seq (A_region ?_)))
      refine M0 (q_moveC rfl rfl rfl) rfl rfl ?_;refine M0 (q_lssK rfl rfl rfl rfl (by assumption)) rfl rfl ?_;refine L_nil (T_n ?_);refine A_ifT rfl ?_;refine A_seq ?_
      refine A_region ?_;refine M0 (q_assignC rfl rfl rfl) rfl rfl ?_;refine L_nil (T_n (A_ret (B_r (T_r (T_r (B_r (T_r ?_)))))))
      refine F_r ?_
      exact E_tmp rfl rfl (W_end [] (by decide) rfl rfl (I_eq (by rw [szr_neg (by omega)])))
    · rw [szr_pos (by omega)] at hc
      have hb : decide (left - ((xs.length : Int) + wts (xs.take k)) - Enc.wt xs[k] < 0) = false := decide_eq_false (by omega)
      refine A_skip (T_n (A_seq (A_block (A_seq (A_region ?_)))));refine M0 (q_moveC rfl rfl rfl) rfl rfl ?_;refine M0 (q_moveC rfl rfl rfl) rfl rfl ?_
      refine M0 (q_at rfl rfl rfl rfl (by omega) (by assumption) rfl) rfl rfl ?_;refine M0 (q_lrN rfl rfl rfl rfl rfl) rfl rfl ?_;refine M0 (q_moveC rfl rfl rfl) rfl rfl ?_
      refine M0 (q_call0 rfl rfl (hc) rfl) rfl rfl ?_;refine M0 (q_assignC rfl rfl rfl) rfl rfl ?_;refine L_nil (T_n (A_seq (A_region ?_)))
      refine M0 (q_moveC rfl rfl rfl) rfl rfl ?_;refine M0 (q_lssK rfl rfl rfl rfl (by assumption)) rfl rfl ?_;refine L_nil (T_n ?_);refine A_ifF rfl ?_;refine A_skip (B_n ?_)
      refine T_n (A_region ?_);refine M0 (q_moveC rfl rfl rfl) rfl rfl ?_;refine M0 (q_add rfl rfl rfl rfl (by omega)) rfl rfl ?_;refine M0 (q_assignC rfl rfl rfl) rfl rfl ?_
      refine L_nil (T_n ?_)
      exact ⟨xs.length - (k + 1),by omega,(fun k : Nat => (⟨_,[(0,L xs),(1,I (left - (xs.length + wts (xs.take k)))),(5,I k)],[]⟩ : St)) (k + 1),W_go [] (by decide) rfl (rfl) (.cons rfl (.cons (I_eq (by rw [hstep]; omega)) (.cons rfl (.nil)))),k + 1,by omega,by omega,rfl⟩
  · have h3 : ¬ ((k : Int) < (els xs).length) := of_decide_eq_false h
    have hk : wts (xs.take k) = wts xs := by rw [List.take_of_length_le (by omega)]
    refine A_exit (T_x (T_x (B_xs (T_n (A_seq (A_region ?_))))));refine M0 (q_moveC rfl rfl rfl) rfl rfl ?_
    refine M0 (q_assignC rfl rfl rfl) rfl rfl ?_;refine L_nil (T_n (A_ret (F_r ?_)))
    exact E_tmp rfl rfl (W_end [] (by decide) rfl rfl (I_eq (by rw [szr_pos (by omega)]; omega)))
def zPeer : List T := [.v (.int .i64 0),.v (.int .i64 0),.v (.int .i64 0),.v (.int .i64 0),.sl 1 [],.sl 1 [],.v (.int .i64 0),.v (.int .i64 0),.sl 1 [],.sl 1 [],.sl 1 [],.v (.int .i64 0),.v (.int .i64 0),.sl 1 [],.sl 1 [],.sl 1 [],.sl 1 [],.sl 1 [],.v (.int .i64 0),.v (.int .i64 0),.v (.int .i64 0),.v (.int .i64 0),.v (.int .i64 0)]
set_option maxHeartbeats 1000000 in
theorem to_PeerS (xs : List TPeer) (hg : Enc.wt xs ≤ 1048576) : Con Tryz.prog 30 [] [al xs] [.row 23 (els xs)] (.o (.c (.ref 0))) := by
  have hlen := els_len xs
  have hw : Enc.wt xs = xs.length + wts xs := rfl
  refine Con.of Tryz.func30 rfl Tryz.ntmps30 rfl (fun E => ?_)
  refine A_seq (A_region ?_);refine M0 (q_assignC rfl rfl rfl) rfl rfl ?_;refine L_nil (T_n (A_seq (A_region ?_)));refine M0 (q_moveC rfl rfl rfl) rfl rfl ?_
  refine M0 (q_len rfl rfl rfl) rfl rfl ?_;refine M1 (q_make 1 rfl rfl rfl rfl (by omega) (by omega) (by omega) rfl (by decide)) rfl rfl ?_;refine M0 (q_assignC rfl rfl rfl) rfl rfl ?_
  refine L_nil (T_n (A_seq (A_seq (A_region ?_))));refine M0 (q_assignC rfl rfl rfl) rfl rfl ?_;refine L_nil (T_n (A_block ?_))
  refine A_loop (fun m st => ∃ k : Nat,k + m = xs.length ∧ (True) ∧ st = (fun k : Nat => (⟨_,[(0,L xs),(3,.o (.c (.ref 0))),(4,I k)],[.row 23 (part xs zPeer k)]⟩ : St)) k) (xs.length) ⟨(fun k : Nat => (⟨_,[(0,L xs),(3,.o (.c (.ref 0))),(4,I k)],[.row 23 (part xs zPeer k)]⟩ : St)) 0,W_go [0] (by decide) rfl (row_eq (part_zero xs _)) (.cons rfl (.cons rfl (.cons rfl (.nil)))),0,by omega,trivial,rfl⟩ ?_
  rintro m_A _ ⟨k,hk_A,hp_A,rfl⟩
  refine A_seq (A_seq (A_region ?_));refine M0 (q_moveC rfl rfl rfl) rfl rfl ?_;refine M0 (q_moveC rfl rfl rfl) rfl rfl ?_;refine M0 (q_len rfl rfl rfl) rfl rfl ?_
  refine M0 (q_lss rfl rfl rfl rfl) rfl rfl ?_;refine L_nil (T_n ?_)
  refine A_cond rfl (fun h => ?_) (fun h => ?_)
  · have h3 : k < xs.length := by have := of_decide_eq_true h; omega
    have hat := els_at h3
    have hz := part_at xs zPeer h3
    have hpl : (k : Int) < (part xs zPeer k).length := by rw [part_len xs _ (by omega)]; omega
    have hwt : Enc.wt xs[k] ≤ wts xs := wts_le xs _ (List.getElem_mem h3)
    have hc := to_Peer xs[k] (by omega)
    refine A_skip (T_n (A_seq (A_block (A_region ?_))));refine M0 (q_moveC rfl rfl rfl) rfl rfl ?_;refine M0 (q_moveC rfl rfl rfl) rfl rfl ?_
    refine M0 (q_moveC rfl rfl rfl) rfl rfl ?_;refine M0 (q_moveC rfl rfl rfl) rfl rfl ?_;refine M0 (q_at rfl rfl rfl rfl (by omega) (by assumption) rfl) rfl rfl ?_
    refine M0 (q_lrN rfl rfl rfl rfl rfl) rfl rfl ?_;refine M1 (q_call rfl rfl (hc) rfl rfl rfl) rfl rfl ?_;refine M0 (q_ar rfl rfl rfl rfl rfl (by omega) (by assumption)) rfl rfl ?_
    refine M_steN rfl rfl rfl rfl rfl rfl rfl rfl rfl rfl (by assumption) rfl rfl ?_;refine L_nil (B_n (T_n (A_region ?_)))
    refine M0 (q_moveC rfl rfl rfl) rfl rfl ?_;refine M0 (q_add rfl rfl rfl rfl (by omega)) rfl rfl ?_;refine M0 (q_assignC rfl rfl rfl) rfl rfl ?_;refine L_nil (T_n ?_)
    exact ⟨xs.length - (k + 1),by omega,(fun k : Nat => (⟨_,[(0,L xs),(3,.o (.c (.ref 0))),(4,I k)],[.row 23 (part xs zPeer k)]⟩ : St)) (k + 1),W_go [0] (by decide) rfl (row_eq (part_set xs zPeer h3 _ (by rfl) (by rfl)).symm) (.cons rfl (.cons rfl (.cons rfl (.nil)))),k + 1,by omega,trivial,rfl⟩
  · have h3 : ¬ ((k : Int) < (els xs).length) := of_decide_eq_false h
    refine A_exit (T_x (T_x (B_xs (T_n (A_seq (A_region ?_))))));refine M0 (q_moveC rfl rfl rfl) rfl rfl ?_
    refine M0 (q_assignC rfl rfl rfl) rfl rfl ?_;refine L_nil (T_n (A_ret (F_r ?_)))
    exact E_tmp rfl rfl (W_end [0] (by decide) rfl (row_eq (part_all xs _ (by omega)).symm) rfl)
set_option maxHeartbeats 1000000 in
theorem eq_PeerS (xs ys : List TPeer) (hn : Enc.gd xs) : Con Tryz.prog 44 [] [al xs,al ys] [] (B (decide (xs = ys))) := by
  have hn1 := hn.1
  have hlx := els_len xs
  have hly := els_len ys
  by_cases hl : xs.length = ys.length
  · have hb : decide (((els xs).length : Int) ≠ ((els ys).length : Int)) = false := by rw [hlx,hly,hl]; simp
    refine Con.of Tryz.func44 rfl Tryz.ntmps44 rfl (fun E => ?_)
    refine A_seq (A_region ?_);refine M0 (q_assignC rfl rfl rfl) rfl rfl ?_;refine L_nil (T_n (A_seq (A_seq (A_region ?_))))
    refine M0 (q_moveC rfl rfl rfl) rfl rfl ?_;refine M0 (q_len rfl rfl rfl) rfl rfl ?_;refine M0 (q_moveC rfl rfl rfl) rfl rfl ?_;refine M0 (q_len rfl rfl rfl) rfl rfl ?_
    refine M0 (q_neqK rfl rfl rfl rfl (by assumption)) rfl rfl ?_;refine L_nil (T_n ?_);refine A_ifF rfl ?_;refine A_skip (T_n (A_seq (A_seq ?_)))
    refine A_region ?_;refine M0 (q_assignC rfl rfl rfl) rfl rfl ?_;refine L_nil (T_n (A_block ?_))
    refine A_loop (fun m st => ∃ k : Nat,k + m = xs.length ∧ (xs.take k = ys.take k) ∧ st = (fun k : Nat => (⟨_,[(0,L xs),(1,L ys),(5,I k)],[]⟩ : St)) k) (xs.length) ⟨(fun k : Nat => (⟨_,[(0,L xs),(1,L ys),(5,I k)],[]⟩ : St)) 0,W_go [] (by decide) rfl (rfl) (.cons rfl (.cons rfl (.cons rfl (.nil)))),0,by omega,by simp,rfl⟩ ?_
    rintro m_A _ ⟨k,hk_A,hp_A,rfl⟩
    refine A_seq (A_seq (A_region ?_));refine M0 (q_moveC rfl rfl rfl) rfl rfl ?_;refine M0 (q_moveC rfl rfl rfl) rfl rfl ?_;refine M0 (q_len rfl rfl rfl) rfl rfl ?_
    refine M0 (q_lss rfl rfl rfl rfl) rfl rfl ?_;refine L_nil (T_n ?_)
    refine A_cond rfl (fun h => ?_) (fun h => ?_)
    · have h3 : k < xs.length := by have := of_decide_eq_true h; omega
      have h4 : k < ys.length := by omega
      have hat := els_at h3
      have hat2 := els_at h4
      have hc := eq_Peer xs[k] ys[k] (hn.2 _ (List.getElem_mem h3))
      by_cases he : xs[k] = ys[k]
      · rw [decide_eq_true he] at hc
        refine A_skip (T_n (A_seq (A_block (A_seq ?_))))
        refine A_draw [[],[],[0,1],[0,1,2],[],[],[4,5],[4,5,6],[0,1,2,3,4,5,6,7],[0,1,2,3,4,5,6,7,8]] [[],[],[17,18],[17,18,19],[],[],[21,22],[21,22,23],[17,18,19,20,21,22,23,24],[17,18,19,20,21,22,23,24,25]] [[18,21,22,23,24],[17,21,22,23,24],[21,22,23,24],[21,22,23,24],[17,18,19,20,22],[17,18,19,20,21],[17,18,19,20],[17,18,19,20],[],[]] rfl ?_
        refine DR.step (q_moveC rfl rfl rfl) rfl rfl ?_;refine DR.step (q_moveC rfl rfl rfl) rfl rfl ?_;refine DR.step (q_at rfl rfl rfl rfl (by omega) (by assumption) rfl) rfl rfl ?_
        refine DR.step (q_lrN rfl rfl rfl rfl rfl) rfl rfl ?_;refine DR.step (q_moveC rfl rfl rfl) rfl rfl ?_;refine DR.step (q_moveC rfl rfl rfl) rfl rfl ?_
        refine DR.step (q_at rfl rfl rfl rfl (by omega) (by assumption) rfl) rfl rfl ?_;refine DR.step (q_lrN rfl rfl rfl rfl rfl) rfl rfl ?_
        refine DR.step (q_call0 rfl rfl (hc) rfl) rfl rfl ?_;refine DR.step (q_not rfl rfl rfl) rfl rfl ?_;refine DR.stop (by kernel_rfl) (by kernel_rfl) ?_
        refine L_nil (T_n ?_);refine A_ifF rfl ?_;refine A_skip (B_n (T_n (A_region ?_)));refine M0 (q_moveC rfl rfl rfl) rfl rfl ?_
        refine M0 (q_add rfl rfl rfl rfl (by omega)) rfl rfl ?_;refine M0 (q_assignC rfl rfl rfl) rfl rfl ?_;refine L_nil (T_n ?_)
        exact ⟨xs.length - (k + 1),by omega,(fun k : Nat => (⟨_,[(0,L xs),(1,L ys),(5,I k)],[]⟩ : St)) (k + 1),W_go [] (by decide) rfl (rfl) (.cons rfl (.cons rfl (.cons rfl (.nil)))),k + 1,by omega,eq_next h3 h4 hp_A he,rfl⟩
      · rw [decide_eq_false he] at hc
        refine A_skip (T_n (A_seq (A_block (A_seq ?_))))
        refine A_draw [[],[],[0,1],[0,1,2],[],[],[4,5],[4,5,6],[0,1,2,3,4,5,6,7],[0,1,2,3,4,5,6,7,8]] [[],[],[17,18],[17,18,19],[],[],[21,22],[21,22,23],[17,18,19,20,21,22,23,24],[17,18,19,20,21,22,23,24,25]] [[18,21,22,23,24],[17,21,22,23,24],[21,22,23,24],[21,22,23,24],[17,18,19,20,22],[17,18,19,20,21],[17,18,19,20],[17,18,19,20],[],[]] rfl ?_
        refine DR.step (q_moveC rfl rfl rfl) rfl rfl ?_;refine DR.step (q_moveC rfl rfl rfl) rfl rfl ?_;refine DR.step (q_at rfl rfl rfl rfl (by omega) (by assumption) rfl) rfl rfl ?_
        refine DR.step (q_lrN rfl rfl rfl rfl rfl) rfl rfl ?_;refine DR.step (q_moveC rfl rfl rfl) rfl rfl ?_;refine DR.step (q_moveC rfl rfl rfl) rfl rfl ?_
        refine DR.step (q_at rfl rfl rfl rfl (by omega) (by assumption) rfl) rfl rfl ?_;refine DR.step (q_lrN rfl rfl rfl rfl rfl) rfl rfl ?_
        refine DR.step (q_call0 rfl rfl (hc) rfl) rfl rfl ?_;refine DR.step (q_not rfl rfl rfl) rfl rfl ?_;refine DR.stop (by kernel_rfl) (by kernel_rfl) ?_
        refine L_nil (T_n ?_);refine A_ifT rfl ?_;refine A_seq (A_region ?_);refine M0 (q_assignC rfl rfl rfl) rfl rfl ?_;refine L_nil (T_n (A_ret (B_r ?_)))
        refine T_r (T_r (B_r (T_r (F_r ?_))))
        exact E_tmp rfl rfl (W_end [] (by decide) rfl rfl (B_eq (eq_ne h3 h4 he).symm))
    · have h3 : ¬ ((k : Int) < (els xs).length) := of_decide_eq_false h
      refine A_exit (T_x (T_x (B_xs (T_n (A_seq (A_region ?_))))));refine M0 (q_assignC rfl rfl rfl) rfl rfl ?_;refine L_nil (T_n ?_)
      refine A_ret (F_r ?_)
      exact E_tmp rfl rfl (W_end [] (by decide) rfl rfl (B_eq (eq_all (by omega) hl hp_A).symm))
  · have hb : decide (((els xs).length : Int) ≠ ((els ys).length : Int)) = true := by rw [hlx,hly]; simp; omega
    refine Con.of Tryz.func44 rfl Tryz.ntmps44 rfl (fun E => ?_)
    refine A_seq (A_region ?_);refine M0 (q_assignC rfl rfl rfl) rfl rfl ?_;refine L_nil (T_n (A_seq (A_seq (A_region ?_))))
    refine M0 (q_moveC rfl rfl rfl) rfl rfl ?_;refine M0 (q_len rfl rfl rfl) rfl rfl ?_;refine M0 (q_moveC rfl rfl rfl) rfl rfl ?_;refine M0 (q_len rfl rfl rfl) rfl rfl ?_
    refine M0 (q_neqK rfl rfl rfl rfl (by assumption)) rfl rfl ?_;refine L_nil (T_n ?_);refine A_ifT rfl ?_;refine A_seq (A_region ?_)
    refine M0 (q_assignC rfl rfl rfl) rfl rfl ?_;refine L_nil (T_n (A_ret (T_r (F_r ?_))))
    exact E_tmp rfl rfl (W_end [] (by decide) rfl rfl (B_eq (eq_len hl).symm))
end Go.Proofs.YtbpebmolbdplmaaGreat
end
