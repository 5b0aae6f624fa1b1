/-
  Marks of worlds and spectators. No statement of the program is proved here.
  Conditions: lists of at most 2^20 elements.
  The law FnExactNewSpectator returns true.
  Conditions: none.
  The kit's readings of the laws' structs as Lean data. No statement of the program is proved here.
  Conditions: none.
-/
import Derived.Test.YtkfnaniegldfaaaDDSpectRowk8
import Derived.Test.YtkfnaniegldfaaaDDSpectRowk11
section
set_option linter.unusedSimpArgs false
set_option linter.unusedVariables false
set_option maxRecDepth 8000
namespace Go.Proofs.Ytkfnaniegldfaaa
open Go.RowKit

def cntW (x : TWorld) (k : Int) : Int := k + x.Level.Rows.length + x.Scores.length + 9 * x.Bodies.length
def markW (x : TWorld) (k : Int) : TWorld := ⟨⟨markS x.Level.Rows k⟩, x.Tick, x.Seed, markI x.Scores (k + x.Level.Rows.length), markB x.Bodies (k + x.Level.Rows.length + x.Scores.length)⟩
set_option maxHeartbeats 8000000 in
theorem L_markWorld (x : TWorld) (k : Int) (h1 : x.Level.Rows.length ≤ 1048576) (h2 : x.Scores.length ≤ 1048576) (h3 : x.Bodies.length ≤ 1048576) (h0 : 0 < k) (hk : k ≤ 1073741823) : Con Try.prog 35 [.row 1 (els x.Level.Rows), .row 1 (els x.Scores), .row 9 (els x.Bodies), .gh 0 (.ag (ownV 0 (Enc.e x)))] [.ag (ownV 0 (Enc.e x)), ai k]
    [.row 1 (els (markW x k).Level.Rows), .row 1 (els (markW x k).Scores), .row 9 (els (markW x k).Bodies), .gh 0 (.ag (ownV 0 (Enc.e x)))] (I (cntW x k)) := by
  refine Con.of Try.func35 rfl Try.ntmps35 rfl (fun E => ?_)
  refine A_seq ?_; refine A_region ?_; refine M1 (q_boxN rfl rfl rfl rfl) rfl rfl ?_; refine M0 (q_assignC rfl rfl rfl) rfl rfl ?_; refine L_nil ?_; refine T_n ?_; refine A_seq ?_
  refine A_region ?_; refine M0 (q_fldp rfl rfl rfl rfl (by decide)) rfl rfl ?_; refine M0 (q_ldN rfl rfl rfl rfl rfl rfl) rfl rfl ?_; refine M0 (q_moveC rfl rfl rfl) rfl rfl ?_
  refine M_lent (lo := [_]) (gs := [(0, .ag [.ref 0])]) (lo' := [_]) (new := []) [0] [(0, 0, .ref 0)] (L_markLevel x.Level.Rows k h1 h0 (by omega)) rfl rfl rfl rfl rfl rfl rfl rfl rfl rfl rfl rfl rfl rfl rfl rfl rfl ?_
  refine M0 (q_assignC rfl rfl rfl) rfl rfl ?_; refine L_nil ?_; refine T_n ?_; refine A_seq ?_; refine A_region ?_; refine M0 (q_fldp rfl rfl rfl rfl (by decide)) rfl rfl ?_
  refine M0 (q_ld1 rfl rfl rfl rfl rfl) rfl rfl ?_; refine M0 (q_moveC rfl rfl rfl) rfl rfl ?_
  refine M_lent (lo := [_]) (gs := [(0, .c (.ref 0))]) (lo' := [_]) (new := []) [1] [(0, 0, .ref 0)] (L_markIntS x.Scores (k + x.Level.Rows.length) (by omega) (by omega) (by omega)) rfl rfl rfl rfl rfl rfl rfl rfl rfl rfl rfl rfl rfl rfl rfl rfl rfl ?_
  refine M0 (q_assignC rfl rfl rfl) rfl rfl ?_; refine L_nil ?_; refine T_n ?_; refine A_seq ?_; refine A_region ?_; refine M0 (q_fldp rfl rfl rfl rfl (by decide)) rfl rfl ?_
  refine M0 (q_ld1 rfl rfl rfl rfl rfl) rfl rfl ?_; refine M0 (q_moveC rfl rfl rfl) rfl rfl ?_
  refine M_lent (lo := [_]) (gs := [(0, .c (.ref 0))]) (lo' := [_]) (new := []) [2] [(0, 0, .ref 0)] (L_markBodyS x.Bodies (k + x.Level.Rows.length + x.Scores.length) h3 (by omega) (by omega)) rfl rfl rfl rfl rfl rfl rfl rfl rfl rfl rfl rfl rfl rfl rfl rfl rfl ?_
  refine M0 (q_assignC rfl rfl rfl) rfl rfl ?_; refine L_nil ?_; refine T_n ?_; refine A_seq ?_; refine A_region ?_; refine M0 (q_moveC rfl rfl rfl) rfl rfl ?_
  refine M0 (q_assignC rfl rfl rfl) rfl rfl ?_; refine L_nil ?_; refine T_n ?_; refine A_ret ?_; refine F_r ?_
  exact E_tmp rfl rfl (W_end [0, 1, 2, 3] (by decide) rfl rfl rfl)
set_option maxHeartbeats 8000000 in
theorem L_heldWorld (x : TWorld) (k : Int) (h1 : x.Level.Rows.length ≤ 1048576) (h2 : x.Scores.length ≤ 1048576) (h3 : x.Bodies.length ≤ 1048576) (h0 : 0 < k) (hk : k ≤ 1073741823) : Con Try.prog 36 [] [ag (markW x k), ai k] [] (I (cntW x k)) := by
  have hn : decide (k + (x.Level.Rows.length : Int) < 0) = false := decide_eq_false (by omega)
  have hm : decide (k + (x.Level.Rows.length : Int) + x.Scores.length < 0) = false := decide_eq_false (by omega)
  have hm2 : decide (k + (x.Level.Rows.length : Int) + x.Scores.length + 9 * x.Bodies.length < 0) = false := decide_eq_false (by omega)
  refine Con.of Try.func36 rfl Try.ntmps36 rfl (fun E => ?_)
  refine A_seq ?_; refine A_region ?_; refine M1 (q_boxN rfl rfl rfl rfl) rfl rfl ?_; refine M0 (q_assignC rfl rfl rfl) rfl rfl ?_; refine L_nil ?_; refine T_n ?_; refine A_seq ?_
  refine A_region ?_; refine M0 (q_fldp rfl rfl rfl rfl (by decide)) rfl rfl ?_; refine M0 (q_ldN rfl rfl rfl rfl rfl rfl) rfl rfl ?_; refine M0 (q_moveC rfl rfl rfl) rfl rfl ?_
  refine M0 (q_call0 rfl rfl (L_heldLevel x.Level.Rows k h1 h0 (by omega)) rfl) rfl rfl ?_; refine M0 (q_assignC rfl rfl rfl) rfl rfl ?_; refine L_nil ?_; refine T_n ?_; refine A_seq ?_
  refine A_seq ?_; refine A_region ?_; refine M0 (q_moveC rfl rfl rfl) rfl rfl ?_; refine M0 (q_lssK rfl rfl rfl rfl (by assumption)) rfl rfl ?_; refine L_nil ?_; refine T_n ?_
  refine A_ifF rfl ?_; refine A_skip ?_; refine T_n ?_; refine A_seq ?_; refine A_region ?_; refine M0 (q_fldp rfl rfl rfl rfl (by decide)) rfl rfl ?_
  refine M0 (q_ld1 rfl rfl rfl rfl rfl) rfl rfl ?_; refine M0 (q_moveC rfl rfl rfl) rfl rfl ?_
  refine M0 (q_call0 rfl rfl (L_heldIntS x.Scores (k + x.Level.Rows.length) (by omega) (by omega) (by omega)) rfl) rfl rfl ?_; refine M0 (q_assignC rfl rfl rfl) rfl rfl ?_
  refine L_nil ?_; refine T_n ?_; refine A_seq ?_; refine A_seq ?_; refine A_region ?_; refine M0 (q_moveC rfl rfl rfl) rfl rfl ?_; refine M0 (q_lssK rfl rfl rfl rfl (by assumption)) rfl rfl ?_
  refine L_nil ?_; refine T_n ?_; refine A_ifF rfl ?_; refine A_skip ?_; refine T_n ?_; refine A_seq ?_; refine A_region ?_; refine M0 (q_fldp rfl rfl rfl rfl (by decide)) rfl rfl ?_
  refine M0 (q_ld1 rfl rfl rfl rfl rfl) rfl rfl ?_; refine M0 (q_moveC rfl rfl rfl) rfl rfl ?_
  refine M0 (q_call0 rfl rfl (L_heldBodyS x.Bodies (k + x.Level.Rows.length + x.Scores.length) h3 (by omega) (by omega)) rfl) rfl rfl ?_; refine M0 (q_assignC rfl rfl rfl) rfl rfl ?_
  refine L_nil ?_; refine T_n ?_; refine A_seq ?_; refine A_seq ?_; refine A_region ?_; refine M0 (q_moveC rfl rfl rfl) rfl rfl ?_; refine M0 (q_lssK rfl rfl rfl rfl (by assumption)) rfl rfl ?_
  refine L_nil ?_; refine T_n ?_; refine A_ifF rfl ?_; refine A_skip ?_; refine T_n ?_; refine A_seq ?_; refine A_region ?_; refine M0 (q_moveC rfl rfl rfl) rfl rfl ?_
  refine M0 (q_assignC rfl rfl rfl) rfl rfl ?_; refine L_nil ?_; refine T_n ?_; refine A_ret ?_; refine F_r ?_
  exact E_tmp rfl rfl (W_end [] (by decide) rfl rfl rfl)
set_option maxHeartbeats 8000000 in
theorem L_markSpectator (x : TWorld) (g k : Int) (h1 : x.Level.Rows.length ≤ 1048576) (h2 : x.Scores.length ≤ 1048576) (h3 : x.Bodies.length ≤ 1048576) (h0 : 0 < k) (hk : k ≤ 1073741823) : Con Try.prog 30 [.row 1 (els x.Level.Rows), .row 1 (els x.Scores), .row 9 (els x.Bodies), .gh 0 (.ag (ownV 0 (Enc.e (⟨x, g⟩ : TSpectator))))] [.ag (ownV 0 (Enc.e (⟨x, g⟩ : TSpectator))), ai k]
    [.row 1 (els (markW x k).Level.Rows), .row 1 (els (markW x k).Scores), .row 9 (els (markW x k).Bodies), .gh 0 (.ag (ownV 0 (Enc.e (⟨x, g⟩ : TSpectator))))] (I (cntW x k)) := by
  refine Con.of Try.func30 rfl Try.ntmps30 rfl (fun E => ?_)
  refine A_seq ?_; refine A_region ?_; refine M1 (q_boxN rfl rfl rfl rfl) rfl rfl ?_; refine M0 (q_assignC rfl rfl rfl) rfl rfl ?_; refine L_nil ?_; refine T_n ?_; refine A_seq ?_
  refine A_region ?_; refine M0 (q_fldp rfl rfl rfl rfl (by decide)) rfl rfl ?_; refine M0 (q_ldN rfl rfl rfl rfl rfl rfl) rfl rfl ?_; refine M0 (q_moveC rfl rfl rfl) rfl rfl ?_
  refine M_lent (lo := [_, _, _]) (gs := [(0, .ag (ownV 0 (Enc.e x)))]) (lo' := [_, _, _]) (new := []) [0, 1, 2] [(0, 0, .ref 0), (0, 3, .ref 1), (0, 4, .ref 2)] (L_markWorld x k h1 h2 h3 h0 hk) rfl rfl rfl rfl rfl rfl rfl rfl rfl rfl rfl rfl rfl rfl rfl rfl rfl ?_
  refine M0 (q_assignC rfl rfl rfl) rfl rfl ?_; refine L_nil ?_; refine T_n ?_; refine A_seq ?_; refine A_region ?_; refine M0 (q_moveC rfl rfl rfl) rfl rfl ?_
  refine M0 (q_assignC rfl rfl rfl) rfl rfl ?_; refine L_nil ?_; refine T_n ?_; refine A_ret ?_; refine F_r ?_
  exact E_tmp rfl rfl (W_end [0, 1, 2, 3] (by decide) rfl rfl rfl)
set_option maxHeartbeats 8000000 in
theorem L_heldSpectator (x : TWorld) (g k : Int) (h1 : x.Level.Rows.length ≤ 1048576) (h2 : x.Scores.length ≤ 1048576) (h3 : x.Bodies.length ≤ 1048576) (h0 : 0 < k) (hk : k ≤ 1073741823) : Con Try.prog 31 [] [ag (⟨markW x k, g⟩ : TSpectator), ai k] [] (I (cntW x k)) := by
  have hm : decide (cntW x k < 0) = false := decide_eq_false (by unfold cntW; omega)
  refine Con.of Try.func31 rfl Try.ntmps31 rfl (fun E => ?_)
  refine A_seq ?_; refine A_region ?_; refine M1 (q_boxN rfl rfl rfl rfl) rfl rfl ?_; refine M0 (q_assignC rfl rfl rfl) rfl rfl ?_; refine L_nil ?_; refine T_n ?_; refine A_seq ?_
  refine A_region ?_; refine M0 (q_fldp rfl rfl rfl rfl (by decide)) rfl rfl ?_; refine M0 (q_ldN rfl rfl rfl rfl rfl rfl) rfl rfl ?_; refine M0 (q_moveC rfl rfl rfl) rfl rfl ?_
  refine M0 (q_call0 rfl rfl (L_heldWorld x k h1 h2 h3 h0 hk) rfl) rfl rfl ?_; refine M0 (q_assignC rfl rfl rfl) rfl rfl ?_; refine L_nil ?_; refine T_n ?_; refine A_seq ?_; refine A_seq ?_
  refine A_region ?_; refine M0 (q_moveC rfl rfl rfl) rfl rfl ?_; refine M0 (q_lssK rfl rfl rfl rfl (by assumption)) rfl rfl ?_; refine L_nil ?_; refine T_n ?_; refine A_ifF rfl ?_
  refine A_skip ?_; refine T_n ?_; refine A_seq ?_; refine A_region ?_; refine M0 (q_moveC rfl rfl rfl) rfl rfl ?_; refine M0 (q_assignC rfl rfl rfl) rfl rfl ?_; refine L_nil ?_; refine T_n ?_
  refine A_ret ?_; refine F_r ?_
  exact E_tmp rfl rfl (W_end [] (by decide) rfl rfl rfl)
end Go.Proofs.Ytkfnaniegldfaaa
end

section
set_option linter.unusedSimpArgs false
set_option linter.unusedVariables false
namespace Go.Proofs.Ytkfnaniegldfaaa
open Go.RowKit

structure WorIn (w : TWorld) : Prop where
  gd : Enc.gd w
  h1 : w.Level.Rows.length ≤ 1048576
  h2 : w.Scores.length ≤ 1048576
  h3 : w.Bodies.length ≤ 1048576
theorem wor_zero : WorIn zeroWorld := ⟨⟨⟨by simp [zeroWorld], fun x hx => by simp [zeroWorld] at hx⟩, ⟨by decide, by decide⟩, ⟨by decide, by decide⟩, ⟨by simp [zeroWorld], fun x hx => by simp [zeroWorld] at hx⟩, ⟨by simp [zeroWorld], fun x hx => by simp [zeroWorld] at hx⟩⟩, by simp [zeroWorld], by simp [zeroWorld], by simp [zeroWorld]⟩
theorem read_in {lv : TLevel} {s : ByteArray} (hg : Enc.gd lv) (hL : lv.Rows.length ≤ 1048576) (hs : s.size ≤ 1099511627776) : WorIn (rwW (readWorld lv s)) := by
  cases hu : unpackInts s 0 with
  | none => rw [readWorld_none hu]; exact wor_zero
  | some r =>
    obtain ⟨l, pos⟩ := r
    obtain ⟨_, hu1, hu2, hu3, hu4⟩ := unpackInts_some hu
    by_cases hp : pos = s.size ∧ formOk l ∧ worldOk (worldOf lv l) = true
    · rw [readWorld_yes hu hp]
      have hw := worldOk_spec hp.2.2
      exact ⟨worldOf_gd hg hu4 (by omega), hL, Nat.le_trans hw.2.2.2.1.2 (by decide), Nat.le_trans hw.2.2.2.2.2.1.2 (by decide)⟩
    · rw [readWorld_no hu hp]; exact wor_zero
@[reducible] def iv (n : Int) : V1 := .rd [] (.v (.int .i64 n))
set_option maxHeartbeats 8000000 in
theorem law_NewSpectator (l : TLevel) (s : ByteArray) (hl : Enc.gd l) (hgs : Enc.gd s) : Con Try.prog 6 [] [ag l, astr s] [] (B true) := by
  by_cases n0 : (1048576 : Int) < s.size
  · have hb0 : decide ((1048576 : Int) < s.size) = true := decide_eq_true n0
    refine Con.of Try.func6 rfl Try.ntmps6 rfl (fun E => ?_)
    refine A_seq ?_; refine A_region ?_; refine M1 (q_boxN rfl rfl rfl rfl) rfl rfl ?_; refine M0 (q_assignC rfl rfl rfl) rfl rfl ?_; refine L_nil ?_; refine T_n ?_; refine A_seq ?_; refine A_seq ?_
    refine A_region ?_; refine M0 (q_moveC rfl rfl rfl) rfl rfl ?_; refine M0 (q_lens rfl rfl rfl) rfl rfl ?_; refine M0 (q_gtrK rfl rfl rfl rfl (by assumption)) rfl rfl ?_; refine L_nil ?_
    refine T_n ?_; refine A_ifT rfl ?_; refine A_seq ?_; refine A_region ?_; refine M0 (q_assignC rfl rfl rfl) rfl rfl ?_; refine L_nil ?_; refine T_n ?_; refine A_ret ?_; refine T_r ?_; refine F_r ?_
    exact E_tmp rfl rfl (W_end [] (by decide) rfl rfl rfl)
  have hb0 : decide ((1048576 : Int) < s.size) = false := decide_eq_false n0
  have hz1 := sz_Level l 1048576 hl (by omega) (by omega)
  by_cases n1 : (1048576 : Int) < Enc.wt l
  · rw [szr_neg n1] at hz1
    refine Con.of Try.func6 rfl Try.ntmps6 rfl (fun E => ?_)
    refine A_seq ?_; refine A_region ?_; refine M1 (q_boxN rfl rfl rfl rfl) rfl rfl ?_; refine M0 (q_assignC rfl rfl rfl) rfl rfl ?_; refine L_nil ?_; refine T_n ?_; refine A_seq ?_; refine A_seq ?_
    refine A_region ?_; refine M0 (q_moveC rfl rfl rfl) rfl rfl ?_; refine M0 (q_lens rfl rfl rfl) rfl rfl ?_; refine M0 (q_gtrK rfl rfl rfl rfl (by assumption)) rfl rfl ?_; refine L_nil ?_
    refine T_n ?_; refine A_ifF rfl ?_; refine A_skip ?_; refine T_n ?_; refine A_seq ?_; refine A_region ?_; refine M0 (q_assignC rfl rfl rfl) rfl rfl ?_; refine L_nil ?_; refine T_n ?_
    refine A_seq ?_; refine A_region ?_; refine M0 (q_ldN rfl rfl rfl rfl rfl rfl) rfl rfl ?_; refine M0 (q_moveC rfl rfl rfl) rfl rfl ?_; refine M0 (q_call0 rfl rfl (hz1) rfl) rfl rfl ?_
    refine M0 (q_assignC rfl rfl rfl) rfl rfl ?_; refine L_nil ?_; refine T_n ?_; refine A_seq ?_; refine A_seq ?_; refine A_region ?_; refine M0 (q_moveC rfl rfl rfl) rfl rfl ?_
    refine M0 (q_lssK (b := true) rfl rfl rfl rfl (by decide)) rfl rfl ?_; refine L_nil ?_; refine T_n ?_; refine A_ifT rfl ?_; refine A_seq ?_; refine A_region ?_
    refine M0 (q_assignC rfl rfl rfl) rfl rfl ?_; refine L_nil ?_; refine T_n ?_; refine A_ret ?_; refine T_r ?_; refine F_r ?_
    exact E_tmp rfl rfl (W_end [] (by decide) rfl rfl rfl)
  rw [szr_pos (by omega)] at hz1
  have hb1 : decide ((1048576 : Int) - Enc.wt l < 0) = false := decide_eq_false (by omega)
  have hL : l.Rows.length ≤ 1048576 := by
    have h2 : Enc.wt l = l.Rows.length + wts l.Rows := rfl
    omega
  have ht1 := to_Level l (by omega)
  have hsp := S_NewSpectator l s hl hL (by omega)
  have hip := I_NewSpectator l s hl hL (by omega)
  have iy := read_in (s := s) hl hL (by omega)
  generalize rwW (readWorld l s) = w at hsp hip iy
  generalize rwB (readWorld l s) = b at hsp hip
  obtain ⟨iy1, iy2, iy3, iy4⟩ := iy
  have hq1 := eq_Spectator (⟨w, 0⟩ : TSpectator) ⟨w, 0⟩ ⟨iy1, ⟨show (-9223372036854775808 : Int) ≤ 0 by decide, show (0 : Int) ≤ 9223372036854775807 by decide⟩⟩
  have hq2 := eq_Level l l hl
  rw [decide_eq_true rfl] at hq1 hq2
  have hm_l := L_markLevel l.Rows 1 hL (by omega) (by omega)
  have hm_w := L_markSpectator w 0 1 iy2 iy3 iy4 (by omega) (by omega)
  have hh := L_heldSpectator w 0 1 iy2 iy3 iy4 (by omega) (by omega)
  have hk1 : decide ((1 : Int) + l.Rows.length < 0) = false := decide_eq_false (by omega)
  have hk2 : decide (cntW w 1 < 0) = false := decide_eq_false (by unfold cntW; omega)
  refine Con.of Try.func6 rfl Try.ntmps6 rfl (fun E => ?_)
  refine A_seq ?_; refine A_region ?_; refine M1 (q_boxN rfl rfl rfl rfl) rfl rfl ?_; refine M0 (q_assignC rfl rfl rfl) rfl rfl ?_; refine L_nil ?_; refine T_n ?_; refine A_seq ?_; refine A_seq ?_
  refine A_region ?_; refine M0 (q_moveC rfl rfl rfl) rfl rfl ?_; refine M0 (q_lens rfl rfl rfl) rfl rfl ?_; refine M0 (q_gtrK rfl rfl rfl rfl (by assumption)) rfl rfl ?_; refine L_nil ?_
  refine T_n ?_; refine A_ifF rfl ?_; refine A_skip ?_; refine T_n ?_; refine A_seq ?_; refine A_region ?_; refine M0 (q_assignC rfl rfl rfl) rfl rfl ?_; refine L_nil ?_; refine T_n ?_
  refine A_seq ?_; refine A_region ?_; refine M0 (q_ldN rfl rfl rfl rfl rfl rfl) rfl rfl ?_; refine M0 (q_moveC rfl rfl rfl) rfl rfl ?_; refine M0 (q_call0 rfl rfl (hz1) rfl) rfl rfl ?_
  refine M0 (q_assignC rfl rfl rfl) rfl rfl ?_; refine L_nil ?_; refine T_n ?_; refine A_seq ?_; refine A_seq ?_; refine A_region ?_; refine M0 (q_moveC rfl rfl rfl) rfl rfl ?_
  refine M0 (q_lssK rfl rfl rfl rfl (by assumption)) rfl rfl ?_; refine L_nil ?_; refine T_n ?_; refine A_ifF rfl ?_; refine A_skip ?_; refine T_n ?_; refine A_seq ?_; refine A_region ?_
  refine M0 (q_ldN rfl rfl rfl rfl rfl rfl) rfl rfl ?_; refine M1 (q_call rfl rfl (ht1) rfl rfl rfl) rfl rfl ?_; refine M0 (q_moveC rfl rfl rfl) rfl rfl ?_
  refine M1 (q_call rfl rfl (hsp) rfl rfl rfl) rfl rfl ?_; refine M0 (q_moveT rfl rfl rfl) rfl rfl ?_; refine M0 (q_ext rfl rfl rfl rfl) rfl rfl ?_
  refine M0 (q_ext rfl rfl rfl rfl) rfl rfl ?_; refine M1 (q_alloc rfl rfl rfl) rfl rfl ?_; refine M_stN rfl rfl rfl rfl rfl rfl rfl rfl rfl ?_
  refine M0 (q_assignC rfl rfl rfl) rfl rfl ?_; refine L_nil ?_; refine T_n ?_; refine A_seq ?_; refine A_region ?_; refine M0 (q_ldN rfl rfl rfl rfl rfl rfl) rfl rfl ?_
  refine M1 (q_call rfl rfl (ht1) rfl rfl rfl) rfl rfl ?_; refine M1 (q_alloc rfl rfl rfl) rfl rfl ?_; refine M_stN rfl rfl rfl rfl rfl rfl rfl rfl rfl ?_; refine L_nil ?_; refine T_n ?_
  refine A_seq ?_; refine A_region ?_; refine M0 (q_ldN rfl rfl rfl rfl rfl rfl) rfl rfl ?_; refine M0 (q_moveC rfl rfl rfl) rfl rfl ?_
  refine M1 (q_call rfl rfl (hip) rfl rfl rfl) rfl rfl ?_; refine M0 (q_moveT rfl rfl rfl) rfl rfl ?_; refine M0 (q_ext rfl rfl rfl rfl) rfl rfl ?_
  refine M0 (q_ext rfl rfl rfl rfl) rfl rfl ?_; refine M1 (q_alloc rfl rfl rfl) rfl rfl ?_; refine M_stN rfl rfl rfl rfl rfl rfl rfl rfl rfl ?_
  refine M0 (q_assignC rfl rfl rfl) rfl rfl ?_; refine L_nil ?_; refine T_n ?_; refine A_seq ?_; refine A_seq ?_; refine A_region ?_; refine M0 (q_ldN rfl rfl rfl rfl rfl rfl) rfl rfl ?_
  refine M0 (q_ldN rfl rfl rfl rfl rfl rfl) rfl rfl ?_; refine M0 (q_call0 rfl rfl (hq1) rfl) rfl rfl ?_; refine M0 (q_not rfl rfl rfl) rfl rfl ?_
  refine M0 (q_moveC rfl rfl rfl) rfl rfl ?_; refine M_yes rfl rfl rfl ?_; refine M0 (q_moveC rfl rfl rfl) rfl rfl ?_; refine M_yes rfl rfl rfl ?_; refine M0 (q_moveC rfl rfl rfl) rfl rfl ?_
  refine M_yes rfl rfl rfl ?_; refine M0 (q_bneqR rfl rfl rfl rfl) rfl rfl ?_; refine M0 (q_pickF rfl rfl rfl rfl) rfl rfl ?_; refine L_nil ?_; refine T_n ?_; refine A_ifF rfl ?_
  refine A_skip ?_; refine T_n ?_; refine A_seq ?_; refine A_seq ?_
  refine AWP.pre (st' := (⟨_, [(1, S s), (2, .o (.c (.ptr 0 0))), (6, .o (.c (.ptr 4 0))), (7, B b), (8, .o (.c (.ptr 6 0))), (9, .o (.c (.ptr 10 0))), (10, B b)], [.box ((Enc.e l).map (V1.rd [])), .row 1 (els w.Level.Rows), .row 1 (els w.Scores), .row 9 (els w.Bodies), .box [.ref 1, iv w.Tick, iv w.Seed, .ref 2, .ref 3, iv 0], .row 1 (els l.Rows), .box [.ref 5], .row 1 (els w.Level.Rows), .row 1 (els w.Scores), .row 9 (els w.Bodies), .box [.ref 7, iv w.Tick, iv w.Seed, .ref 8, .ref 9, iv 0]]⟩ : St)) ?_ (W_go [0, 2, 3, 4, 5, 6, 7, 8, 9, 10, 11] (by decide) rfl (rfl) (.cons rfl (.cons rfl (.cons rfl (.cons rfl (.cons rfl (.cons rfl (.cons rfl (.nil)))))))))
  refine A_draw [[], [], [1], [0, 1, 2], [0, 1, 2, 3]] [[], [], [49], [48, 49, 50], [48, 49, 50, 51]] [[49, 50], [48], [48], [], []] rfl ?_
  refine DR.step (q_ldN rfl rfl rfl rfl rfl rfl) rfl rfl ?_; refine DR.step (q_ldN rfl rfl rfl rfl rfl rfl) rfl rfl ?_; refine DR.step (q_call rfl rfl (ht1) rfl rfl rfl) rfl rfl ?_
  refine DR.step (q_call0 rfl rfl (hq2) rfl) rfl rfl ?_; refine DR.step (q_not rfl rfl rfl) rfl rfl ?_; refine DR.stop (by kernel_rfl) (by kernel_rfl) ?_
  refine L_nil ?_; refine T_n ?_
  refine AWP.pre (st' := (⟨_, [(1, S s), (2, .o (.c (.ptr 0 0))), (6, .o (.c (.ptr 4 0))), (7, B b), (8, .o (.c (.ptr 6 0))), (9, .o (.c (.ptr 10 0))), (10, B b), (52, B false)], [.box ((Enc.e l).map (V1.rd [])), .row 1 (els w.Level.Rows), .row 1 (els w.Scores), .row 9 (els w.Bodies), .box [.ref 1, iv w.Tick, iv w.Seed, .ref 2, .ref 3, iv 0], .row 1 (els l.Rows), .box [.ref 5], .row 1 (els w.Level.Rows), .row 1 (els w.Scores), .row 9 (els w.Bodies), .box [.ref 7, iv w.Tick, iv w.Seed, .ref 8, .ref 9, iv 0]]⟩ : St)) ?_ (W_go [0, 1, 2, 3, 4, 5, 6, 7, 8, 9, 10] (by decide) rfl (rfl) (.cons rfl (.cons rfl (.cons rfl (.cons rfl (.cons rfl (.cons rfl (.cons rfl (.cons rfl (.nil))))))))))
  refine A_ifF rfl ?_; refine A_skip ?_; refine T_n ?_; refine A_seq ?_; refine A_region ?_; refine M0 (q_assignC rfl rfl rfl) rfl rfl ?_; refine L_nil ?_; refine T_n ?_; refine A_seq ?_
  refine A_region ?_; refine M0 (q_ldN rfl rfl rfl rfl rfl rfl) rfl rfl ?_; refine M0 (q_moveC rfl rfl rfl) rfl rfl ?_
  refine M_lent (lo := [_]) (gs := [(0, .ag [.ref 0])]) (lo' := [_]) (new := []) [5] [(0, 0, .ref 0)] (hm_l) rfl rfl rfl rfl rfl rfl rfl rfl rfl rfl rfl rfl rfl rfl rfl rfl rfl ?_
  refine M0 (q_assignC rfl rfl rfl) rfl rfl ?_; refine L_nil ?_; refine T_n ?_; refine A_seq ?_; refine A_seq ?_; refine A_region ?_; refine M0 (q_moveC rfl rfl rfl) rfl rfl ?_
  refine M0 (q_lssK rfl rfl rfl rfl (by assumption)) rfl rfl ?_; refine M0 (q_moveC rfl rfl rfl) rfl rfl ?_; refine M_yes rfl rfl rfl ?_
  refine M0 (q_ldN rfl rfl rfl rfl rfl rfl) rfl rfl ?_; refine M_yes rfl rfl rfl ?_; refine M0 (q_ldN rfl rfl rfl rfl rfl rfl) rfl rfl ?_; refine M_yes rfl rfl rfl ?_
  refine AL.weak (st' := (⟨_, [(1, S s), (2, .o (.c (.ptr 0 0))), (6, .o (.c (.ptr 4 0))), (7, B b), (9, .o (.c (.ptr 8 0))), (10, B b), (58, B false), (59, .o (.ag [.ref 5, iv w.Tick, iv w.Seed, .ref 6, .ref 7, iv 0])), (60, .o (.ag [.ref 1, iv w.Tick, iv w.Seed, .ref 2, .ref 3, iv 0]))], [.box ((Enc.e l).map (V1.rd [])), .row 1 (els w.Level.Rows), .row 1 (els w.Scores), .row 9 (els w.Bodies), .box [.ref 1, iv w.Tick, iv w.Seed, .ref 2, .ref 3, iv 0], .row 1 (els w.Level.Rows), .row 1 (els w.Scores), .row 9 (els w.Bodies), .box [.ref 5, iv w.Tick, iv w.Seed, .ref 6, .ref 7, iv 0]]⟩ : St)) (W_go [0, 1, 2, 3, 4, 7, 8, 9, 10] (by decide) rfl (rfl) (.cons rfl (.cons rfl (.cons rfl (.cons rfl (.cons rfl (.cons rfl (.cons rfl (.cons rfl (.cons rfl (.nil))))))))))) ?_
  refine M0 (q_call0 rfl rfl (hq1) rfl) rfl rfl ?_; refine M_yes rfl rfl rfl ?_; refine M0 (q_not rfl rfl rfl) rfl rfl ?_; refine M0 (q_pickF rfl rfl rfl rfl) rfl rfl ?_
  refine M0 (q_moveC rfl rfl rfl) rfl rfl ?_; refine M_yes rfl rfl rfl ?_; refine M0 (q_moveC rfl rfl rfl) rfl rfl ?_; refine M_yes rfl rfl rfl ?_; refine M0 (q_moveC rfl rfl rfl) rfl rfl ?_
  refine M_yes rfl rfl rfl ?_; refine M0 (q_bneqR rfl rfl rfl rfl) rfl rfl ?_; refine M0 (q_pickF rfl rfl rfl rfl) rfl rfl ?_; refine L_nil ?_; refine T_n ?_; refine A_ifF rfl ?_
  refine A_skip ?_; refine T_n ?_; refine A_seq ?_; refine A_region ?_; refine M0 (q_assignC rfl rfl rfl) rfl rfl ?_; refine L_nil ?_; refine T_n ?_; refine A_seq ?_; refine A_region ?_
  refine M0 (q_ldN rfl rfl rfl rfl rfl rfl) rfl rfl ?_; refine M0 (q_moveC rfl rfl rfl) rfl rfl ?_
  refine AL.weak (st' := (⟨_, [(1, S s), (2, .o (.c (.ptr 0 0))), (6, .o (.c (.ptr 4 0))), (7, B b), (9, .o (.c (.ptr 8 0))), (69, .o (.ag [.ref 5, iv w.Tick, iv w.Seed, .ref 6, .ref 7, iv 0])), (70, I 1)], [.box ((Enc.e l).map (V1.rd [])), .row 1 (els w.Level.Rows), .row 1 (els w.Scores), .row 9 (els w.Bodies), .box [.ref 1, iv w.Tick, iv w.Seed, .ref 2, .ref 3, iv 0], .row 1 (els w.Level.Rows), .row 1 (els w.Scores), .row 9 (els w.Bodies), .box [.ref 5, iv w.Tick, iv w.Seed, .ref 6, .ref 7, iv 0]]⟩ : St)) (W_go [0, 1, 2, 3, 4, 5, 6, 7, 8] (by decide) rfl (rfl) (.cons rfl (.cons rfl (.cons rfl (.cons rfl (.cons rfl (.cons rfl (.cons rfl (.nil))))))))) ?_
  refine M_lent (lo := [_, _, _]) (gs := [(0, .ag [.ref 0, iv w.Tick, iv w.Seed, .ref 1, .ref 2, iv 0])]) (lo' := [_, _, _]) (new := []) [5, 6, 7] [(0, 0, .ref 0), (0, 3, .ref 1), (0, 4, .ref 2)] (hm_w) rfl rfl rfl rfl rfl rfl rfl rfl rfl rfl rfl rfl rfl rfl rfl rfl rfl ?_
  refine M0 (q_assignC rfl rfl rfl) rfl rfl ?_; refine L_nil ?_; refine T_n ?_; refine A_seq ?_; refine A_region ?_; refine M0 (q_assignC rfl rfl rfl) rfl rfl ?_; refine L_nil ?_; refine T_n ?_
  refine A_seq ?_; refine A_region ?_; refine M0 (q_ldN rfl rfl rfl rfl rfl rfl) rfl rfl ?_; refine M0 (q_moveC rfl rfl rfl) rfl rfl ?_
  refine AL.weak (st' := (⟨_, [(1, S s), (2, .o (.c (.ptr 0 0))), (6, .o (.c (.ptr 4 0))), (7, B b), (9, .o (.c (.ptr 8 0))), (12, I (cntW w 1)), (72, .o (.ag [.ref 5, iv w.Tick, iv w.Seed, .ref 6, .ref 7, iv 0])), (73, I 1)], [.box ((Enc.e l).map (V1.rd [])), .row 1 (els w.Level.Rows), .row 1 (els w.Scores), .row 9 (els w.Bodies), .box [.ref 1, iv w.Tick, iv w.Seed, .ref 2, .ref 3, iv 0], .row 1 (els (markW w 1).Level.Rows), .row 1 (els (markW w 1).Scores), .row 9 (els (markW w 1).Bodies), .box [.ref 5, iv w.Tick, iv w.Seed, .ref 6, .ref 7, iv 0]]⟩ : St)) (W_go [0, 1, 2, 3, 4, 5, 6, 7, 8] (by decide) rfl (rfl) (.cons rfl (.cons rfl (.cons rfl (.cons rfl (.cons rfl (.cons rfl (.cons rfl (.cons rfl (.nil)))))))))) ?_
  refine M0 (q_call0 rfl rfl (hh) rfl) rfl rfl ?_; refine M0 (q_assignC rfl rfl rfl) rfl rfl ?_; refine L_nil ?_; refine T_n ?_; refine A_seq ?_; refine A_seq ?_; refine A_region ?_
  refine M0 (q_moveC rfl rfl rfl) rfl rfl ?_; refine M0 (q_lssK rfl rfl rfl rfl (by assumption)) rfl rfl ?_; refine L_nil ?_; refine T_n ?_; refine A_ifF rfl ?_; refine A_skip ?_; refine T_n ?_
  refine A_seq ?_; refine A_seq ?_; refine A_region ?_; refine M0 (q_moveC rfl rfl rfl) rfl rfl ?_; refine M0 (q_moveC rfl rfl rfl) rfl rfl ?_; refine M0 (q_neqR rfl rfl rfl rfl) rfl rfl ?_
  refine L_nil ?_; refine T_n ?_; refine A_ifF rfl ?_; refine A_skip ?_; refine T_n ?_; refine A_seq ?_; refine A_region ?_; refine M0 (q_ldN rfl rfl rfl rfl rfl rfl) rfl rfl ?_
  refine AL.weak (st' := (⟨_, [(1, S s), (6, .o (.c (.ptr 3 0))), (7, B b), (9, .o (.c (.ptr 7 0))), (12, I (cntW w 1)), (81, .o (.ag ((Enc.e l).map (V1.rd []))))], [.row 1 (els w.Level.Rows), .row 1 (els w.Scores), .row 9 (els w.Bodies), .box [.ref 0, iv w.Tick, iv w.Seed, .ref 1, .ref 2, iv 0], .row 1 (els (markW w 1).Level.Rows), .row 1 (els (markW w 1).Scores), .row 9 (els (markW w 1).Bodies), .box [.ref 4, iv w.Tick, iv w.Seed, .ref 5, .ref 6, iv 0]]⟩ : St)) (W_go [1, 2, 3, 4, 5, 6, 7, 8] (by decide) rfl (rfl) (.cons rfl (.cons rfl (.cons rfl (.cons rfl (.cons rfl (.cons rfl (.nil)))))))) ?_
  refine M1 (q_call rfl rfl (ht1) rfl rfl rfl) rfl rfl ?_; refine M0 (q_moveC rfl rfl rfl) rfl rfl ?_; refine M1 (q_call rfl rfl (hip) rfl rfl rfl) rfl rfl ?_
  refine M0 (q_moveT rfl rfl rfl) rfl rfl ?_; refine M0 (q_ext rfl rfl rfl rfl) rfl rfl ?_; refine M0 (q_ext rfl rfl rfl rfl) rfl rfl ?_; refine M1 (q_alloc rfl rfl rfl) rfl rfl ?_
  refine M_stN rfl rfl rfl rfl rfl rfl rfl rfl rfl ?_; refine M0 (q_assignC rfl rfl rfl) rfl rfl ?_; refine L_nil ?_; refine T_n ?_; refine A_seq ?_; refine A_seq ?_; refine A_region ?_
  refine M0 (q_ldN rfl rfl rfl rfl rfl rfl) rfl rfl ?_; refine M0 (q_ldN rfl rfl rfl rfl rfl rfl) rfl rfl ?_; refine M0 (q_call0 rfl rfl (hq1) rfl) rfl rfl ?_
  refine M0 (q_not rfl rfl rfl) rfl rfl ?_; refine M0 (q_moveC rfl rfl rfl) rfl rfl ?_; refine M_yes rfl rfl rfl ?_; refine M0 (q_moveC rfl rfl rfl) rfl rfl ?_; refine M_yes rfl rfl rfl ?_
  refine M0 (q_moveC rfl rfl rfl) rfl rfl ?_; refine M_yes rfl rfl rfl ?_; refine M0 (q_bneqR rfl rfl rfl rfl) rfl rfl ?_; refine M0 (q_pickF rfl rfl rfl rfl) rfl rfl ?_; refine L_nil ?_
  refine T_n ?_; refine A_ifF rfl ?_; refine A_skip ?_; refine T_n ?_; refine A_seq ?_; refine A_region ?_; refine M0 (q_assignC rfl rfl rfl) rfl rfl ?_; refine L_nil ?_; refine T_n ?_
  refine A_seq ?_; refine A_region ?_; refine M0 (q_ldN rfl rfl rfl rfl rfl rfl) rfl rfl ?_; refine M0 (q_moveC rfl rfl rfl) rfl rfl ?_
  refine AL.weak (st' := (⟨_, [(12, I (cntW w 1)), (96, .o (.ag [.ref 0, iv w.Tick, iv w.Seed, .ref 1, .ref 2, iv 0])), (97, I 1)], [.row 1 (els (markW w 1).Level.Rows), .row 1 (els (markW w 1).Scores), .row 9 (els (markW w 1).Bodies)]⟩ : St)) (W_go [4, 5, 6] (by decide) rfl (rfl) (.cons rfl (.cons rfl (.cons rfl (.nil))))) ?_
  refine M0 (q_call0 rfl rfl (hh) rfl) rfl rfl ?_; refine M0 (q_assignC rfl rfl rfl) rfl rfl ?_; refine L_nil ?_; refine T_n ?_; refine A_seq ?_; refine A_seq ?_; refine A_region ?_
  refine M0 (q_moveC rfl rfl rfl) rfl rfl ?_; refine M0 (q_lssK rfl rfl rfl rfl (by assumption)) rfl rfl ?_; refine L_nil ?_; refine T_n ?_; refine A_ifF rfl ?_; refine A_skip ?_; refine T_n ?_
  refine A_seq ?_; refine A_seq ?_; refine A_region ?_; refine M0 (q_moveC rfl rfl rfl) rfl rfl ?_; refine M0 (q_moveC rfl rfl rfl) rfl rfl ?_; refine M0 (q_neqR rfl rfl rfl rfl) rfl rfl ?_
  refine L_nil ?_; refine T_n ?_; refine A_ifF rfl ?_; refine A_skip ?_; refine T_n ?_; refine A_seq ?_; refine A_region ?_; refine M0 (q_assignC rfl rfl rfl) rfl rfl ?_; refine L_nil ?_
  refine T_n ?_; refine A_ret ?_; refine F_r ?_
  exact E_tmp rfl rfl (W_end [] (by decide) rfl rfl rfl)
end Go.Proofs.Ytkfnaniegldfaaa
end

section
set_option linter.unusedVariables false
namespace Go.Proofs.Ytkfnaniegldfaaa
open Go.ChangeShapes Go.WideShapes Go.ChangeAt Go.RowKit

def RL (w : World) (ts : List T) (cs : List Value) : Prop := ∀ (j : Nat) (t : T) (u : Value), ts[j]? = some t → cs[j]? = some u → RO w (fun _ => True) t u
theorem RL.nil {w : World} {cs : List Value} : RL w [] cs := fun _ _ _ h => by simp at h
theorem RL.app {w : World} {ts us : List T} {cs : List Value} {o n : Nat} (h1 : RL w ts ((cs.drop o).take n)) (hn : ts.length = n) (h2 : RL w us (cs.drop (o + n))) : RL w (ts ++ us) (cs.drop o) := fun j t u h3 h4 => by
  rcases Nat.lt_or_ge j ts.length with hj | hj
  · rw [List.getElem?_append_left hj] at h3
    exact h1 j t u h3 (by rw [List.getElem?_take, if_pos (by omega)]; exact h4)
  · rw [List.getElem?_append_right hj] at h3
    refine h2 (j - ts.length) t u h3 ?_
    rw [List.getElem?_drop] at h4 ⊢
    rw [← h4]
    congr 1
    omega
theorem reads_fld {P : Program} {t tt : TypeId} {fs : Array Field} {f : Field} {α : Type} [Enc α] {H : Type} {enc : TypeId × Value → H} {w : World} {spare : Nat → Bool} {held : Bool} {fuel : Nat} {cs : List Value} {x : DataW H × List MemPlace}
    (ht : P.underlying t = some (.struct fs)) (h : DataW.trod enc P w 0 spare held fuel t cs = some x) (i : Nat) (hf : fs[i]? = some f) (hty : f.type = tt) [hα : RdOf P tt α] {o : Nat} (ho : f.offset = o) :
    ∃ y : α, Enc.gd y ∧ RL w (Enc.e y) ((cs.drop o).take (Enc.k α)) := by
  obtain ⟨xs, n, _, _, hl, hlen, hfs⟩ := DataW.trod_struct ht h
  have h1 := hfs i f hf
  have hi : i < fs.size := by
    rcases Nat.lt_or_ge i fs.size with h2 | h2
    · exact h2
    · rw [Array.getElem?_eq_none h2] at hf; cases hf
  rw [List.getElem?_eq_getElem (by omega), hty, ho, hα.size] at h1
  obtain ⟨y, hg, hr⟩ := hα.of h1
  exact ⟨y, hg, hr.2⟩
theorem reads_len {P : Program} {t : TypeId} {fs : Array Field} {H : Type} {enc : TypeId × Value → H} {w : World} {spare : Nat → Bool} {held : Bool} {fuel : Nat} {cs : List Value} {x : DataW H × List MemPlace}
    (ht : P.underlying t = some (.struct fs)) (h : DataW.trod enc P w 0 spare held fuel t cs = some x) : cs.length = P.cellsOf t := by
  obtain ⟨xs, n, _, _, hl, _⟩ := DataW.trod_struct ht h
  exact hl

instance : RdOf Try.prog 3 Int := rdOf_int Try.underlying3 (by kernel_rfl)
instance : RdOf Try.prog 9 ByteArray := rdOf_string Try.underlying9 (by kernel_rfl)
instance : RdOf Try.prog 46 (List Int) := rdOf_slice Try.underlying46 (by kernel_rfl)
instance : RdOf Try.prog 22 (List ByteArray) := rdOf_slice Try.underlying22 (by kernel_rfl)
instance : RdOf Try.prog 25 (List (List Int)) := rdOf_slice Try.underlying25 (by kernel_rfl)
instance : RdOf Try.prog 24 TLevel where
  size := by kernel_rfl
  of {H enc w spare held fuel cs x} h := by
    obtain ⟨y0, g0, r0⟩ := reads_fld (α := (List ByteArray)) (tt := 22) Try.underlying24 h 0 rfl rfl rfl
    refine ⟨⟨y0⟩, g0, ?_, ?_⟩
    · rw [reads_len Try.underlying24 h]; kernel_rfl
    · exact (RL.app (o := 0) (n := 1) r0 rfl (RL.nil) : RL w _ (cs.drop 0))
instance : RdOf Try.prog 27 TReplay where
  size := by kernel_rfl
  of {H enc w spare held fuel cs x} h := by
    obtain ⟨y0, g0, r0⟩ := reads_fld (α := TLevel) (tt := 24) Try.underlying27 h 0 rfl rfl rfl
    obtain ⟨y1, g1, r1⟩ := reads_fld (α := Int) (tt := 3) Try.underlying27 h 1 rfl rfl rfl
    obtain ⟨y2, g2, r2⟩ := reads_fld (α := Int) (tt := 3) Try.underlying27 h 2 rfl rfl rfl
    obtain ⟨y3, g3, r3⟩ := reads_fld (α := Int) (tt := 3) Try.underlying27 h 3 rfl rfl rfl
    obtain ⟨y4, g4, r4⟩ := reads_fld (α := (List (List Int))) (tt := 25) Try.underlying27 h 4 rfl rfl rfl
    obtain ⟨y5, g5, r5⟩ := reads_fld (α := (List ByteArray)) (tt := 22) Try.underlying27 h 5 rfl rfl rfl
    refine ⟨⟨y0, y1, y2, y3, y4, y5⟩, ⟨g0, g1, g2, g3, g4, g5⟩, ?_, ?_⟩
    · rw [reads_len Try.underlying27 h]; kernel_rfl
    · exact (RL.app (o := 0) (n := 1) r0 rfl (RL.app (o := 1) (n := 1) r1 rfl (RL.app (o := 2) (n := 1) r2 rfl (RL.app (o := 3) (n := 1) r3 rfl (RL.app (o := 4) (n := 1) r4 rfl (RL.app (o := 5) (n := 1) r5 rfl (RL.nil)))))) : RL w _ (cs.drop 0))
end Go.Proofs.Ytkfnaniegldfaaa
end
