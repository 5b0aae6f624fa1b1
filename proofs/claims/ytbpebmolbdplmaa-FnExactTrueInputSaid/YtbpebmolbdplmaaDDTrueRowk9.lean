/-
  How the laws count, copy and compare packets and peers. No statement of the program is proved here.
  Conditions: lists of at most 2^20 elements.
  Flights, wires, paces, alarms and matches as data; how the laws count, copy and compare the small ones. No statement of the program is proved here.
  Conditions: lists of at most 2^20 elements.
  What is valid: numbers in a range, rows of inputs, levels, replays; in the program and in the reference.
  Conditions: none.
  Numbers as bytes: EncodeVarint, Signless, PackInts, PackText, Checksum, SealText, in the program and in the reference.
  Conditions: lists of at most 2^30 elements.
  Runs of inputs as bytes: PackTrack, and the columns of rows, in the program and in the reference.
  Conditions: at most 400 rows of equal length.
  ScriptInput and TrueInput, in the program and in the reference.
  Conditions: none.
-/
import Derived.Test.YtbpebmolbdplmaaDDTrueRowk8
section
set_option linter.unusedVariables false
set_option linter.unusedSimpArgs false
set_option maxRecDepth 8000
namespace Go.Proofs.Ytbpebmolbdplmaa
open Go.RowKit

set_option maxHeartbeats 8000000 in
theorem to_Peer (x : TPeer) (hg : Enc.wt x ≤ 1048576) : Con Try.prog 9 [] [ag x] [.row 1 (els x.Tracks), .row 1 (els x.Base.Level.Rows), .row 1 (els x.Base.Scores), .row 9 (els x.Base.Bodies), .row 1 (els x.Now.Level.Rows), .row 1 (els x.Now.Scores), .row 9 (els x.Now.Bodies), .row 1 (els x.Used), .row 2 (els x.Saves), .row 1 (els x.Sums)] (.o (.ag [.rd [] (.v (.int .i64 x.Me)), .rd [] (.v (.int .i64 x.Delay)), .rd [] (.v (.int .i64 x.Ahead)), .rd [] (.v (.int .i64 x.Seed)), .ref 0, .ref 1, .rd [] (.v (.int .i64 x.Base.Tick)), .rd [] (.v (.int .i64 x.Base.Seed)), .ref 2, .ref 3, .ref 4, .rd [] (.v (.int .i64 x.Now.Tick)), .rd [] (.v (.int .i64 x.Now.Seed)), .ref 5, .ref 6, .ref 7, .ref 8, .ref 9, .rd [] (.v (.int .i64 x.Fault.Tick)), .rd [] (.v (.int .i64 x.Fault.Player)), .rd [] (.v (.int .i64 x.Fault.Add)), .rd [] (.v (.int .i64 x.Rolls)), .rd [] (.v (.int .i64 x.Again))])) := by
  have hw : Enc.wt x = Enc.wt x.Tracks + Enc.wt x.Base + Enc.wt x.Now + Enc.wt x.Used + Enc.wt x.Saves + Enc.wt x.Sums + Enc.wt x.Fault := rfl
  refine Con.of Try.func9 rfl Try.ntmps9 rfl (fun E => ?_)
  refine A_seq ?_; refine A_region ?_; refine M1 (q_boxN rfl rfl rfl rfl) rfl rfl ?_; refine M1 (q_alloc rfl rfl rfl) rfl rfl ?_; refine L_nil ?_; refine T_n ?_; refine A_seq ?_
  refine A_region ?_; refine M1 (q_alloc rfl rfl rfl) rfl rfl ?_; refine L_nil ?_; refine T_n ?_; refine A_seq ?_; refine A_region ?_; refine M0 (q_fldp rfl rfl rfl rfl (by decide)) rfl rfl ?_
  refine M0 (q_ld1 rfl rfl rfl rfl rfl) rfl rfl ?_; refine M0 (q_fldp rfl rfl rfl rfl (by decide)) rfl rfl ?_; refine M_st1 rfl rfl rfl rfl rfl rfl rfl rfl ?_; refine L_nil ?_; refine T_n ?_
  refine A_seq ?_; refine A_region ?_; refine M0 (q_fldp rfl rfl rfl rfl (by decide)) rfl rfl ?_; refine M0 (q_ld1 rfl rfl rfl rfl rfl) rfl rfl ?_
  refine M0 (q_fldp rfl rfl rfl rfl (by decide)) rfl rfl ?_; refine M_st1 rfl rfl rfl rfl rfl rfl rfl rfl ?_; refine L_nil ?_; refine T_n ?_; refine A_seq ?_; refine A_region ?_
  refine M0 (q_fldp rfl rfl rfl rfl (by decide)) rfl rfl ?_; refine M0 (q_ld1 rfl rfl rfl rfl rfl) rfl rfl ?_; refine M0 (q_fldp rfl rfl rfl rfl (by decide)) rfl rfl ?_
  refine M_st1 rfl rfl rfl rfl rfl rfl rfl rfl ?_; refine L_nil ?_; refine T_n ?_; refine A_seq ?_; refine A_region ?_; refine M0 (q_fldp rfl rfl rfl rfl (by decide)) rfl rfl ?_
  refine M0 (q_ld1 rfl rfl rfl rfl rfl) rfl rfl ?_; refine M0 (q_fldp rfl rfl rfl rfl (by decide)) rfl rfl ?_; refine M_st1 rfl rfl rfl rfl rfl rfl rfl rfl ?_; refine L_nil ?_; refine T_n ?_
  refine A_seq ?_; refine A_region ?_; refine M0 (q_fldp rfl rfl rfl rfl (by decide)) rfl rfl ?_; refine M0 (q_ld1 rfl rfl rfl rfl rfl) rfl rfl ?_
  refine AL.weak (st' := (⟨_, [(1, .o (.c (.ptr 0 0))), (2, .o (.c (.ptr 1 0))), (3, .o (.c (.ptr 2 0))), (17, L x.Tracks)], [.box ((Enc.e x).map (V1.rd [])), .box [.rd [] (.v (.int .i64 0)), .rd [] (.v (.int .i64 0)), .rd [] (.v (.int .i64 0)), .rd [] (.v (.int .i64 0)), .rd [] (.v (.slice none 0 0)), .rd [] (.v (.slice none 0 0)), .rd [] (.v (.int .i64 0)), .rd [] (.v (.int .i64 0)), .rd [] (.v (.slice none 0 0)), .rd [] (.v (.slice none 0 0)), .rd [] (.v (.slice none 0 0)), .rd [] (.v (.int .i64 0)), .rd [] (.v (.int .i64 0)), .rd [] (.v (.slice none 0 0)), .rd [] (.v (.slice none 0 0)), .rd [] (.v (.slice none 0 0)), .rd [] (.v (.slice none 0 0)), .rd [] (.v (.slice none 0 0)), .rd [] (.v (.int .i64 0)), .rd [] (.v (.int .i64 0)), .rd [] (.v (.int .i64 0)), .rd [] (.v (.int .i64 0)), .rd [] (.v (.int .i64 0))], .box [.rd [] (.v (.int .i64 x.Me)), .rd [] (.v (.int .i64 x.Delay)), .rd [] (.v (.int .i64 x.Ahead)), .rd [] (.v (.int .i64 x.Seed)), .rd [] (.v (.slice none 0 0)), .rd [] (.v (.slice none 0 0)), .rd [] (.v (.int .i64 0)), .rd [] (.v (.int .i64 0)), .rd [] (.v (.slice none 0 0)), .rd [] (.v (.slice none 0 0)), .rd [] (.v (.slice none 0 0)), .rd [] (.v (.int .i64 0)), .rd [] (.v (.int .i64 0)), .rd [] (.v (.slice none 0 0)), .rd [] (.v (.slice none 0 0)), .rd [] (.v (.slice none 0 0)), .rd [] (.v (.slice none 0 0)), .rd [] (.v (.slice none 0 0)), .rd [] (.v (.int .i64 0)), .rd [] (.v (.int .i64 0)), .rd [] (.v (.int .i64 0)), .rd [] (.v (.int .i64 0)), .rd [] (.v (.int .i64 0))]]⟩ : St)) (W_go [0, 1, 2] (by decide) rfl (rfl) (.cons rfl (.cons rfl (.cons rfl (.cons rfl (.nil)))))) ?_
  refine M1 (q_call rfl rfl (to_TrackS x.Tracks (by omega)) rfl rfl rfl) rfl rfl ?_; refine M0 (q_fldp rfl rfl rfl rfl (by decide)) rfl rfl ?_
  refine M_st1 rfl rfl rfl rfl rfl rfl rfl rfl ?_; refine L_nil ?_; refine T_n ?_; refine A_seq ?_; refine A_region ?_; refine M0 (q_fldp rfl rfl rfl rfl (by decide)) rfl rfl ?_
  refine M0 (q_ldN rfl rfl rfl rfl rfl rfl) rfl rfl ?_
  refine AL.weak (st' := (⟨_, [(1, .o (.c (.ptr 0 0))), (2, .o (.c (.ptr 1 0))), (3, .o (.c (.ptr 2 0))), (21, .o (.ag ((Enc.e x.Base).map (V1.rd []))))], [.box ((Enc.e x).map (V1.rd [])), .box [.rd [] (.v (.int .i64 0)), .rd [] (.v (.int .i64 0)), .rd [] (.v (.int .i64 0)), .rd [] (.v (.int .i64 0)), .rd [] (.v (.slice none 0 0)), .rd [] (.v (.slice none 0 0)), .rd [] (.v (.int .i64 0)), .rd [] (.v (.int .i64 0)), .rd [] (.v (.slice none 0 0)), .rd [] (.v (.slice none 0 0)), .rd [] (.v (.slice none 0 0)), .rd [] (.v (.int .i64 0)), .rd [] (.v (.int .i64 0)), .rd [] (.v (.slice none 0 0)), .rd [] (.v (.slice none 0 0)), .rd [] (.v (.slice none 0 0)), .rd [] (.v (.slice none 0 0)), .rd [] (.v (.slice none 0 0)), .rd [] (.v (.int .i64 0)), .rd [] (.v (.int .i64 0)), .rd [] (.v (.int .i64 0)), .rd [] (.v (.int .i64 0)), .rd [] (.v (.int .i64 0))], .box [.rd [] (.v (.int .i64 x.Me)), .rd [] (.v (.int .i64 x.Delay)), .rd [] (.v (.int .i64 x.Ahead)), .rd [] (.v (.int .i64 x.Seed)), .ref 3, .rd [] (.v (.slice none 0 0)), .rd [] (.v (.int .i64 0)), .rd [] (.v (.int .i64 0)), .rd [] (.v (.slice none 0 0)), .rd [] (.v (.slice none 0 0)), .rd [] (.v (.slice none 0 0)), .rd [] (.v (.int .i64 0)), .rd [] (.v (.int .i64 0)), .rd [] (.v (.slice none 0 0)), .rd [] (.v (.slice none 0 0)), .rd [] (.v (.slice none 0 0)), .rd [] (.v (.slice none 0 0)), .rd [] (.v (.slice none 0 0)), .rd [] (.v (.int .i64 0)), .rd [] (.v (.int .i64 0)), .rd [] (.v (.int .i64 0)), .rd [] (.v (.int .i64 0)), .rd [] (.v (.int .i64 0))], .row 1 (els x.Tracks)]⟩ : St)) (W_go [0, 1, 2, 3] (by decide) rfl (rfl) (.cons rfl (.cons rfl (.cons rfl (.cons rfl (.nil)))))) ?_
  refine M1 (q_call rfl rfl (to_World x.Base (by omega)) rfl rfl rfl) rfl rfl ?_; refine M0 (q_fldp rfl rfl rfl rfl (by decide)) rfl rfl ?_
  refine M_stN rfl rfl rfl rfl rfl rfl rfl rfl rfl ?_; refine L_nil ?_; refine T_n ?_; refine A_seq ?_; refine A_region ?_; refine M0 (q_fldp rfl rfl rfl rfl (by decide)) rfl rfl ?_
  refine M0 (q_ldN rfl rfl rfl rfl rfl rfl) rfl rfl ?_
  refine AL.weak (st' := (⟨_, [(1, .o (.c (.ptr 0 0))), (2, .o (.c (.ptr 1 0))), (3, .o (.c (.ptr 2 0))), (25, .o (.ag ((Enc.e x.Now).map (V1.rd []))))], [.box ((Enc.e x).map (V1.rd [])), .box [.rd [] (.v (.int .i64 0)), .rd [] (.v (.int .i64 0)), .rd [] (.v (.int .i64 0)), .rd [] (.v (.int .i64 0)), .rd [] (.v (.slice none 0 0)), .rd [] (.v (.slice none 0 0)), .rd [] (.v (.int .i64 0)), .rd [] (.v (.int .i64 0)), .rd [] (.v (.slice none 0 0)), .rd [] (.v (.slice none 0 0)), .rd [] (.v (.slice none 0 0)), .rd [] (.v (.int .i64 0)), .rd [] (.v (.int .i64 0)), .rd [] (.v (.slice none 0 0)), .rd [] (.v (.slice none 0 0)), .rd [] (.v (.slice none 0 0)), .rd [] (.v (.slice none 0 0)), .rd [] (.v (.slice none 0 0)), .rd [] (.v (.int .i64 0)), .rd [] (.v (.int .i64 0)), .rd [] (.v (.int .i64 0)), .rd [] (.v (.int .i64 0)), .rd [] (.v (.int .i64 0))], .box [.rd [] (.v (.int .i64 x.Me)), .rd [] (.v (.int .i64 x.Delay)), .rd [] (.v (.int .i64 x.Ahead)), .rd [] (.v (.int .i64 x.Seed)), .ref 3, .ref 4, .rd [] (.v (.int .i64 x.Base.Tick)), .rd [] (.v (.int .i64 x.Base.Seed)), .ref 5, .ref 6, .rd [] (.v (.slice none 0 0)), .rd [] (.v (.int .i64 0)), .rd [] (.v (.int .i64 0)), .rd [] (.v (.slice none 0 0)), .rd [] (.v (.slice none 0 0)), .rd [] (.v (.slice none 0 0)), .rd [] (.v (.slice none 0 0)), .rd [] (.v (.slice none 0 0)), .rd [] (.v (.int .i64 0)), .rd [] (.v (.int .i64 0)), .rd [] (.v (.int .i64 0)), .rd [] (.v (.int .i64 0)), .rd [] (.v (.int .i64 0))], .row 1 (els x.Tracks), .row 1 (els x.Base.Level.Rows), .row 1 (els x.Base.Scores), .row 9 (els x.Base.Bodies)]⟩ : St)) (W_go [0, 1, 2, 3, 4, 5, 6] (by decide) rfl (rfl) (.cons rfl (.cons rfl (.cons rfl (.cons rfl (.nil)))))) ?_
  refine M1 (q_call rfl rfl (to_World x.Now (by omega)) rfl rfl rfl) rfl rfl ?_; refine M0 (q_fldp rfl rfl rfl rfl (by decide)) rfl rfl ?_
  refine M_stN rfl rfl rfl rfl rfl rfl rfl rfl rfl ?_; refine L_nil ?_; refine T_n ?_; refine A_seq ?_; refine A_region ?_; refine M0 (q_fldp rfl rfl rfl rfl (by decide)) rfl rfl ?_
  refine M0 (q_ld1 rfl rfl rfl rfl rfl) rfl rfl ?_
  refine AL.weak (st' := (⟨_, [(1, .o (.c (.ptr 0 0))), (2, .o (.c (.ptr 1 0))), (3, .o (.c (.ptr 2 0))), (29, L x.Used)], [.box ((Enc.e x).map (V1.rd [])), .box [.rd [] (.v (.int .i64 0)), .rd [] (.v (.int .i64 0)), .rd [] (.v (.int .i64 0)), .rd [] (.v (.int .i64 0)), .rd [] (.v (.slice none 0 0)), .rd [] (.v (.slice none 0 0)), .rd [] (.v (.int .i64 0)), .rd [] (.v (.int .i64 0)), .rd [] (.v (.slice none 0 0)), .rd [] (.v (.slice none 0 0)), .rd [] (.v (.slice none 0 0)), .rd [] (.v (.int .i64 0)), .rd [] (.v (.int .i64 0)), .rd [] (.v (.slice none 0 0)), .rd [] (.v (.slice none 0 0)), .rd [] (.v (.slice none 0 0)), .rd [] (.v (.slice none 0 0)), .rd [] (.v (.slice none 0 0)), .rd [] (.v (.int .i64 0)), .rd [] (.v (.int .i64 0)), .rd [] (.v (.int .i64 0)), .rd [] (.v (.int .i64 0)), .rd [] (.v (.int .i64 0))], .box [.rd [] (.v (.int .i64 x.Me)), .rd [] (.v (.int .i64 x.Delay)), .rd [] (.v (.int .i64 x.Ahead)), .rd [] (.v (.int .i64 x.Seed)), .ref 3, .ref 4, .rd [] (.v (.int .i64 x.Base.Tick)), .rd [] (.v (.int .i64 x.Base.Seed)), .ref 5, .ref 6, .ref 7, .rd [] (.v (.int .i64 x.Now.Tick)), .rd [] (.v (.int .i64 x.Now.Seed)), .ref 8, .ref 9, .rd [] (.v (.slice none 0 0)), .rd [] (.v (.slice none 0 0)), .rd [] (.v (.slice none 0 0)), .rd [] (.v (.int .i64 0)), .rd [] (.v (.int .i64 0)), .rd [] (.v (.int .i64 0)), .rd [] (.v (.int .i64 0)), .rd [] (.v (.int .i64 0))], .row 1 (els x.Tracks), .row 1 (els x.Base.Level.Rows), .row 1 (els x.Base.Scores), .row 9 (els x.Base.Bodies), .row 1 (els x.Now.Level.Rows), .row 1 (els x.Now.Scores), .row 9 (els x.Now.Bodies)]⟩ : St)) (W_go [0, 1, 2, 3, 4, 5, 6, 7, 8, 9] (by decide) rfl (rfl) (.cons rfl (.cons rfl (.cons rfl (.cons rfl (.nil)))))) ?_
  refine M1 (q_call rfl rfl (to_IntSS x.Used (by omega)) rfl rfl rfl) rfl rfl ?_; refine M0 (q_fldp rfl rfl rfl rfl (by decide)) rfl rfl ?_
  refine M_st1 rfl rfl rfl rfl rfl rfl rfl rfl ?_; refine L_nil ?_; refine T_n ?_; refine A_seq ?_; refine A_region ?_; refine M0 (q_fldp rfl rfl rfl rfl (by decide)) rfl rfl ?_
  refine M0 (q_ld1 rfl rfl rfl rfl rfl) rfl rfl ?_
  refine AL.weak (st' := (⟨_, [(1, .o (.c (.ptr 0 0))), (2, .o (.c (.ptr 1 0))), (3, .o (.c (.ptr 2 0))), (33, L x.Saves)], [.box ((Enc.e x).map (V1.rd [])), .box [.rd [] (.v (.int .i64 0)), .rd [] (.v (.int .i64 0)), .rd [] (.v (.int .i64 0)), .rd [] (.v (.int .i64 0)), .rd [] (.v (.slice none 0 0)), .rd [] (.v (.slice none 0 0)), .rd [] (.v (.int .i64 0)), .rd [] (.v (.int .i64 0)), .rd [] (.v (.slice none 0 0)), .rd [] (.v (.slice none 0 0)), .rd [] (.v (.slice none 0 0)), .rd [] (.v (.int .i64 0)), .rd [] (.v (.int .i64 0)), .rd [] (.v (.slice none 0 0)), .rd [] (.v (.slice none 0 0)), .rd [] (.v (.slice none 0 0)), .rd [] (.v (.slice none 0 0)), .rd [] (.v (.slice none 0 0)), .rd [] (.v (.int .i64 0)), .rd [] (.v (.int .i64 0)), .rd [] (.v (.int .i64 0)), .rd [] (.v (.int .i64 0)), .rd [] (.v (.int .i64 0))], .box [.rd [] (.v (.int .i64 x.Me)), .rd [] (.v (.int .i64 x.Delay)), .rd [] (.v (.int .i64 x.Ahead)), .rd [] (.v (.int .i64 x.Seed)), .ref 3, .ref 4, .rd [] (.v (.int .i64 x.Base.Tick)), .rd [] (.v (.int .i64 x.Base.Seed)), .ref 5, .ref 6, .ref 7, .rd [] (.v (.int .i64 x.Now.Tick)), .rd [] (.v (.int .i64 x.Now.Seed)), .ref 8, .ref 9, .ref 10, .rd [] (.v (.slice none 0 0)), .rd [] (.v (.slice none 0 0)), .rd [] (.v (.int .i64 0)), .rd [] (.v (.int .i64 0)), .rd [] (.v (.int .i64 0)), .rd [] (.v (.int .i64 0)), .rd [] (.v (.int .i64 0))], .row 1 (els x.Tracks), .row 1 (els x.Base.Level.Rows), .row 1 (els x.Base.Scores), .row 9 (els x.Base.Bodies), .row 1 (els x.Now.Level.Rows), .row 1 (els x.Now.Scores), .row 9 (els x.Now.Bodies), .row 1 (els x.Used)]⟩ : St)) (W_go [0, 1, 2, 3, 4, 5, 6, 7, 8, 9, 10] (by decide) rfl (rfl) (.cons rfl (.cons rfl (.cons rfl (.cons rfl (.nil)))))) ?_
  refine M1 (q_call rfl rfl (to_SaveS x.Saves (by omega)) rfl rfl rfl) rfl rfl ?_; refine M0 (q_fldp rfl rfl rfl rfl (by decide)) rfl rfl ?_
  refine M_st1 rfl rfl rfl rfl rfl rfl rfl rfl ?_; refine L_nil ?_; refine T_n ?_; refine A_seq ?_; refine A_region ?_; refine M0 (q_fldp rfl rfl rfl rfl (by decide)) rfl rfl ?_
  refine M0 (q_ld1 rfl rfl rfl rfl rfl) rfl rfl ?_
  refine AL.weak (st' := (⟨_, [(1, .o (.c (.ptr 0 0))), (2, .o (.c (.ptr 1 0))), (3, .o (.c (.ptr 2 0))), (37, L x.Sums)], [.box ((Enc.e x).map (V1.rd [])), .box [.rd [] (.v (.int .i64 0)), .rd [] (.v (.int .i64 0)), .rd [] (.v (.int .i64 0)), .rd [] (.v (.int .i64 0)), .rd [] (.v (.slice none 0 0)), .rd [] (.v (.slice none 0 0)), .rd [] (.v (.int .i64 0)), .rd [] (.v (.int .i64 0)), .rd [] (.v (.slice none 0 0)), .rd [] (.v (.slice none 0 0)), .rd [] (.v (.slice none 0 0)), .rd [] (.v (.int .i64 0)), .rd [] (.v (.int .i64 0)), .rd [] (.v (.slice none 0 0)), .rd [] (.v (.slice none 0 0)), .rd [] (.v (.slice none 0 0)), .rd [] (.v (.slice none 0 0)), .rd [] (.v (.slice none 0 0)), .rd [] (.v (.int .i64 0)), .rd [] (.v (.int .i64 0)), .rd [] (.v (.int .i64 0)), .rd [] (.v (.int .i64 0)), .rd [] (.v (.int .i64 0))], .box [.rd [] (.v (.int .i64 x.Me)), .rd [] (.v (.int .i64 x.Delay)), .rd [] (.v (.int .i64 x.Ahead)), .rd [] (.v (.int .i64 x.Seed)), .ref 3, .ref 4, .rd [] (.v (.int .i64 x.Base.Tick)), .rd [] (.v (.int .i64 x.Base.Seed)), .ref 5, .ref 6, .ref 7, .rd [] (.v (.int .i64 x.Now.Tick)), .rd [] (.v (.int .i64 x.Now.Seed)), .ref 8, .ref 9, .ref 10, .ref 11, .rd [] (.v (.slice none 0 0)), .rd [] (.v (.int .i64 0)), .rd [] (.v (.int .i64 0)), .rd [] (.v (.int .i64 0)), .rd [] (.v (.int .i64 0)), .rd [] (.v (.int .i64 0))], .row 1 (els x.Tracks), .row 1 (els x.Base.Level.Rows), .row 1 (els x.Base.Scores), .row 9 (els x.Base.Bodies), .row 1 (els x.Now.Level.Rows), .row 1 (els x.Now.Scores), .row 9 (els x.Now.Bodies), .row 1 (els x.Used), .row 2 (els x.Saves)]⟩ : St)) (W_go [0, 1, 2, 3, 4, 5, 6, 7, 8, 9, 10, 11] (by decide) rfl (rfl) (.cons rfl (.cons rfl (.cons rfl (.cons rfl (.nil)))))) ?_
  refine M1 (q_call rfl rfl (to_IntS x.Sums (by omega)) rfl rfl rfl) rfl rfl ?_; refine M0 (q_fldp rfl rfl rfl rfl (by decide)) rfl rfl ?_
  refine M_st1 rfl rfl rfl rfl rfl rfl rfl rfl ?_; refine L_nil ?_; refine T_n ?_; refine A_seq ?_; refine A_region ?_; refine M0 (q_fldp rfl rfl rfl rfl (by decide)) rfl rfl ?_
  refine M0 (q_ldN rfl rfl rfl rfl rfl rfl) rfl rfl ?_
  refine AL.weak (st' := (⟨_, [(1, .o (.c (.ptr 0 0))), (2, .o (.c (.ptr 1 0))), (3, .o (.c (.ptr 2 0))), (41, .o (.ag ((Enc.e x.Fault).map (V1.rd []))))], [.box ((Enc.e x).map (V1.rd [])), .box [.rd [] (.v (.int .i64 0)), .rd [] (.v (.int .i64 0)), .rd [] (.v (.int .i64 0)), .rd [] (.v (.int .i64 0)), .rd [] (.v (.slice none 0 0)), .rd [] (.v (.slice none 0 0)), .rd [] (.v (.int .i64 0)), .rd [] (.v (.int .i64 0)), .rd [] (.v (.slice none 0 0)), .rd [] (.v (.slice none 0 0)), .rd [] (.v (.slice none 0 0)), .rd [] (.v (.int .i64 0)), .rd [] (.v (.int .i64 0)), .rd [] (.v (.slice none 0 0)), .rd [] (.v (.slice none 0 0)), .rd [] (.v (.slice none 0 0)), .rd [] (.v (.slice none 0 0)), .rd [] (.v (.slice none 0 0)), .rd [] (.v (.int .i64 0)), .rd [] (.v (.int .i64 0)), .rd [] (.v (.int .i64 0)), .rd [] (.v (.int .i64 0)), .rd [] (.v (.int .i64 0))], .box [.rd [] (.v (.int .i64 x.Me)), .rd [] (.v (.int .i64 x.Delay)), .rd [] (.v (.int .i64 x.Ahead)), .rd [] (.v (.int .i64 x.Seed)), .ref 3, .ref 4, .rd [] (.v (.int .i64 x.Base.Tick)), .rd [] (.v (.int .i64 x.Base.Seed)), .ref 5, .ref 6, .ref 7, .rd [] (.v (.int .i64 x.Now.Tick)), .rd [] (.v (.int .i64 x.Now.Seed)), .ref 8, .ref 9, .ref 10, .ref 11, .ref 12, .rd [] (.v (.int .i64 0)), .rd [] (.v (.int .i64 0)), .rd [] (.v (.int .i64 0)), .rd [] (.v (.int .i64 0)), .rd [] (.v (.int .i64 0))], .row 1 (els x.Tracks), .row 1 (els x.Base.Level.Rows), .row 1 (els x.Base.Scores), .row 9 (els x.Base.Bodies), .row 1 (els x.Now.Level.Rows), .row 1 (els x.Now.Scores), .row 9 (els x.Now.Bodies), .row 1 (els x.Used), .row 2 (els x.Saves), .row 1 (els x.Sums)]⟩ : St)) (W_go [0, 1, 2, 3, 4, 5, 6, 7, 8, 9, 10, 11, 12] (by decide) rfl (rfl) (.cons rfl (.cons rfl (.cons rfl (.cons rfl (.nil)))))) ?_
  first | refine M0 (q_call0 rfl rfl (to_Fault x.Fault (by omega)) rfl) rfl rfl ?_ | refine M1 (q_call rfl rfl (to_Fault x.Fault (by omega)) rfl rfl rfl) rfl rfl ?_
  refine AL.weak (st' := (⟨_, [(1, .o (.c (.ptr 0 0))), (2, .o (.c (.ptr 1 0))), (3, .o (.c (.ptr 2 0))), (42, .o (.ag ((Enc.e x.Fault).map (V1.rd []))))], [.box ((Enc.e x).map (V1.rd [])), .box [.rd [] (.v (.int .i64 0)), .rd [] (.v (.int .i64 0)), .rd [] (.v (.int .i64 0)), .rd [] (.v (.int .i64 0)), .rd [] (.v (.slice none 0 0)), .rd [] (.v (.slice none 0 0)), .rd [] (.v (.int .i64 0)), .rd [] (.v (.int .i64 0)), .rd [] (.v (.slice none 0 0)), .rd [] (.v (.slice none 0 0)), .rd [] (.v (.slice none 0 0)), .rd [] (.v (.int .i64 0)), .rd [] (.v (.int .i64 0)), .rd [] (.v (.slice none 0 0)), .rd [] (.v (.slice none 0 0)), .rd [] (.v (.slice none 0 0)), .rd [] (.v (.slice none 0 0)), .rd [] (.v (.slice none 0 0)), .rd [] (.v (.int .i64 0)), .rd [] (.v (.int .i64 0)), .rd [] (.v (.int .i64 0)), .rd [] (.v (.int .i64 0)), .rd [] (.v (.int .i64 0))], .box [.rd [] (.v (.int .i64 x.Me)), .rd [] (.v (.int .i64 x.Delay)), .rd [] (.v (.int .i64 x.Ahead)), .rd [] (.v (.int .i64 x.Seed)), .ref 3, .ref 4, .rd [] (.v (.int .i64 x.Base.Tick)), .rd [] (.v (.int .i64 x.Base.Seed)), .ref 5, .ref 6, .ref 7, .rd [] (.v (.int .i64 x.Now.Tick)), .rd [] (.v (.int .i64 x.Now.Seed)), .ref 8, .ref 9, .ref 10, .ref 11, .ref 12, .rd [] (.v (.int .i64 0)), .rd [] (.v (.int .i64 0)), .rd [] (.v (.int .i64 0)), .rd [] (.v (.int .i64 0)), .rd [] (.v (.int .i64 0))], .row 1 (els x.Tracks), .row 1 (els x.Base.Level.Rows), .row 1 (els x.Base.Scores), .row 9 (els x.Base.Bodies), .row 1 (els x.Now.Level.Rows), .row 1 (els x.Now.Scores), .row 9 (els x.Now.Bodies), .row 1 (els x.Used), .row 2 (els x.Saves), .row 1 (els x.Sums)]⟩ : St)) (W_go [0, 1, 2, 3, 4, 5, 6, 7, 8, 9, 10, 11, 12] (by decide) rfl (rfl) (.cons rfl (.cons rfl (.cons rfl (.cons rfl (.nil)))))) ?_
  refine M0 (q_fldp rfl rfl rfl rfl (by decide)) rfl rfl ?_; refine M_stN rfl rfl rfl rfl rfl rfl rfl rfl rfl ?_; refine L_nil ?_; refine T_n ?_; refine A_seq ?_; refine A_region ?_
  refine M0 (q_fldp rfl rfl rfl rfl (by decide)) rfl rfl ?_; refine M0 (q_ld1 rfl rfl rfl rfl rfl) rfl rfl ?_; refine M0 (q_fldp rfl rfl rfl rfl (by decide)) rfl rfl ?_
  refine M_st1 rfl rfl rfl rfl rfl rfl rfl rfl ?_; refine L_nil ?_; refine T_n ?_; refine A_seq ?_; refine A_region ?_; refine M0 (q_fldp rfl rfl rfl rfl (by decide)) rfl rfl ?_
  refine M0 (q_ld1 rfl rfl rfl rfl rfl) rfl rfl ?_; refine M0 (q_fldp rfl rfl rfl rfl (by decide)) rfl rfl ?_; refine M_st1 rfl rfl rfl rfl rfl rfl rfl rfl ?_; refine L_nil ?_; refine T_n ?_
  refine A_seq ?_; refine A_region ?_
  refine AL.weak (st' := (⟨_, [(2, .o (.c (.ptr 1 0))), (3, .o (.c (.ptr 2 0)))], [.box ((Enc.e x).map (V1.rd [])), .box [.rd [] (.v (.int .i64 0)), .rd [] (.v (.int .i64 0)), .rd [] (.v (.int .i64 0)), .rd [] (.v (.int .i64 0)), .rd [] (.v (.slice none 0 0)), .rd [] (.v (.slice none 0 0)), .rd [] (.v (.int .i64 0)), .rd [] (.v (.int .i64 0)), .rd [] (.v (.slice none 0 0)), .rd [] (.v (.slice none 0 0)), .rd [] (.v (.slice none 0 0)), .rd [] (.v (.int .i64 0)), .rd [] (.v (.int .i64 0)), .rd [] (.v (.slice none 0 0)), .rd [] (.v (.slice none 0 0)), .rd [] (.v (.slice none 0 0)), .rd [] (.v (.slice none 0 0)), .rd [] (.v (.slice none 0 0)), .rd [] (.v (.int .i64 0)), .rd [] (.v (.int .i64 0)), .rd [] (.v (.int .i64 0)), .rd [] (.v (.int .i64 0)), .rd [] (.v (.int .i64 0))], .box [.rd [] (.v (.int .i64 x.Me)), .rd [] (.v (.int .i64 x.Delay)), .rd [] (.v (.int .i64 x.Ahead)), .rd [] (.v (.int .i64 x.Seed)), .ref 3, .ref 4, .rd [] (.v (.int .i64 x.Base.Tick)), .rd [] (.v (.int .i64 x.Base.Seed)), .ref 5, .ref 6, .ref 7, .rd [] (.v (.int .i64 x.Now.Tick)), .rd [] (.v (.int .i64 x.Now.Seed)), .ref 8, .ref 9, .ref 10, .ref 11, .ref 12, .rd [] (.v (.int .i64 x.Fault.Tick)), .rd [] (.v (.int .i64 x.Fault.Player)), .rd [] (.v (.int .i64 x.Fault.Add)), .rd [] (.v (.int .i64 x.Rolls)), .rd [] (.v (.int .i64 x.Again))], .row 1 (els x.Tracks), .row 1 (els x.Base.Level.Rows), .row 1 (els x.Base.Scores), .row 9 (els x.Base.Bodies), .row 1 (els x.Now.Level.Rows), .row 1 (els x.Now.Scores), .row 9 (els x.Now.Bodies), .row 1 (els x.Used), .row 2 (els x.Saves), .row 1 (els x.Sums)]⟩ : St)) (W_go [0, 1, 2, 3, 4, 5, 6, 7, 8, 9, 10, 11, 12] (by decide) rfl (rfl) (.cons rfl (.cons rfl (.nil)))) ?_
  refine M0 (q_ldN rfl rfl rfl rfl rfl rfl) rfl rfl ?_
  refine AL.weak (st' := (⟨_, [(2, .o (.c (.ptr 1 0))), (50, .o (.ag [.rd [] (.v (.int .i64 x.Me)), .rd [] (.v (.int .i64 x.Delay)), .rd [] (.v (.int .i64 x.Ahead)), .rd [] (.v (.int .i64 x.Seed)), .ref 3, .ref 4, .rd [] (.v (.int .i64 x.Base.Tick)), .rd [] (.v (.int .i64 x.Base.Seed)), .ref 5, .ref 6, .ref 7, .rd [] (.v (.int .i64 x.Now.Tick)), .rd [] (.v (.int .i64 x.Now.Seed)), .ref 8, .ref 9, .ref 10, .ref 11, .ref 12, .rd [] (.v (.int .i64 x.Fault.Tick)), .rd [] (.v (.int .i64 x.Fault.Player)), .rd [] (.v (.int .i64 x.Fault.Add)), .rd [] (.v (.int .i64 x.Rolls)), .rd [] (.v (.int .i64 x.Again))]))], [.box ((Enc.e x).map (V1.rd [])), .box [.rd [] (.v (.int .i64 0)), .rd [] (.v (.int .i64 0)), .rd [] (.v (.int .i64 0)), .rd [] (.v (.int .i64 0)), .rd [] (.v (.slice none 0 0)), .rd [] (.v (.slice none 0 0)), .rd [] (.v (.int .i64 0)), .rd [] (.v (.int .i64 0)), .rd [] (.v (.slice none 0 0)), .rd [] (.v (.slice none 0 0)), .rd [] (.v (.slice none 0 0)), .rd [] (.v (.int .i64 0)), .rd [] (.v (.int .i64 0)), .rd [] (.v (.slice none 0 0)), .rd [] (.v (.slice none 0 0)), .rd [] (.v (.slice none 0 0)), .rd [] (.v (.slice none 0 0)), .rd [] (.v (.slice none 0 0)), .rd [] (.v (.int .i64 0)), .rd [] (.v (.int .i64 0)), .rd [] (.v (.int .i64 0)), .rd [] (.v (.int .i64 0)), .rd [] (.v (.int .i64 0))], .box [.rd [] (.v (.int .i64 x.Me)), .rd [] (.v (.int .i64 x.Delay)), .rd [] (.v (.int .i64 x.Ahead)), .rd [] (.v (.int .i64 x.Seed)), .ref 3, .ref 4, .rd [] (.v (.int .i64 x.Base.Tick)), .rd [] (.v (.int .i64 x.Base.Seed)), .ref 5, .ref 6, .ref 7, .rd [] (.v (.int .i64 x.Now.Tick)), .rd [] (.v (.int .i64 x.Now.Seed)), .ref 8, .ref 9, .ref 10, .ref 11, .ref 12, .rd [] (.v (.int .i64 x.Fault.Tick)), .rd [] (.v (.int .i64 x.Fault.Player)), .rd [] (.v (.int .i64 x.Fault.Add)), .rd [] (.v (.int .i64 x.Rolls)), .rd [] (.v (.int .i64 x.Again))], .row 1 (els x.Tracks), .row 1 (els x.Base.Level.Rows), .row 1 (els x.Base.Scores), .row 9 (els x.Base.Bodies), .row 1 (els x.Now.Level.Rows), .row 1 (els x.Now.Scores), .row 9 (els x.Now.Bodies), .row 1 (els x.Used), .row 2 (els x.Saves), .row 1 (els x.Sums)]⟩ : St)) (W_go [0, 1, 2, 3, 4, 5, 6, 7, 8, 9, 10, 11, 12] (by decide) rfl (rfl) (.cons rfl (.cons rfl (.nil)))) ?_
  refine M_stN rfl rfl rfl rfl rfl rfl rfl rfl rfl ?_
  refine AL.weak (st' := (⟨_, [(2, .o (.c (.ptr 1 0)))], [.box ((Enc.e x).map (V1.rd [])), .box [.rd [] (.v (.int .i64 x.Me)), .rd [] (.v (.int .i64 x.Delay)), .rd [] (.v (.int .i64 x.Ahead)), .rd [] (.v (.int .i64 x.Seed)), .ref 3, .ref 4, .rd [] (.v (.int .i64 x.Base.Tick)), .rd [] (.v (.int .i64 x.Base.Seed)), .ref 5, .ref 6, .ref 7, .rd [] (.v (.int .i64 x.Now.Tick)), .rd [] (.v (.int .i64 x.Now.Seed)), .ref 8, .ref 9, .ref 10, .ref 11, .ref 12, .rd [] (.v (.int .i64 x.Fault.Tick)), .rd [] (.v (.int .i64 x.Fault.Player)), .rd [] (.v (.int .i64 x.Fault.Add)), .rd [] (.v (.int .i64 x.Rolls)), .rd [] (.v (.int .i64 x.Again))], .box [.rd [] (.v (.int .i64 x.Me)), .rd [] (.v (.int .i64 x.Delay)), .rd [] (.v (.int .i64 x.Ahead)), .rd [] (.v (.int .i64 x.Seed)), .ref 3, .ref 4, .rd [] (.v (.int .i64 x.Base.Tick)), .rd [] (.v (.int .i64 x.Base.Seed)), .ref 5, .ref 6, .ref 7, .rd [] (.v (.int .i64 x.Now.Tick)), .rd [] (.v (.int .i64 x.Now.Seed)), .ref 8, .ref 9, .ref 10, .ref 11, .ref 12, .rd [] (.v (.int .i64 x.Fault.Tick)), .rd [] (.v (.int .i64 x.Fault.Player)), .rd [] (.v (.int .i64 x.Fault.Add)), .rd [] (.v (.int .i64 x.Rolls)), .rd [] (.v (.int .i64 x.Again))], .row 1 (els x.Tracks), .row 1 (els x.Base.Level.Rows), .row 1 (els x.Base.Scores), .row 9 (els x.Base.Bodies), .row 1 (els x.Now.Level.Rows), .row 1 (els x.Now.Scores), .row 9 (els x.Now.Bodies), .row 1 (els x.Used), .row 2 (els x.Saves), .row 1 (els x.Sums)]⟩ : St)) (W_go [0, 1, 2, 3, 4, 5, 6, 7, 8, 9, 10, 11, 12] (by decide) rfl ((by kernel_rfl)) (.cons rfl (.nil))) ?_
  refine L_nil ?_; refine T_n ?_; refine A_ret ?_
  refine F_r ?_
  refine E_cell (cs := [.rd [] (.v (.int .i64 x.Me)), .rd [] (.v (.int .i64 x.Delay)), .rd [] (.v (.int .i64 x.Ahead)), .rd [] (.v (.int .i64 x.Seed)), .ref 3, .ref 4, .rd [] (.v (.int .i64 x.Base.Tick)), .rd [] (.v (.int .i64 x.Base.Seed)), .ref 5, .ref 6, .ref 7, .rd [] (.v (.int .i64 x.Now.Tick)), .rd [] (.v (.int .i64 x.Now.Seed)), .ref 8, .ref 9, .ref 10, .ref 11, .ref 12, .rd [] (.v (.int .i64 x.Fault.Tick)), .rd [] (.v (.int .i64 x.Fault.Player)), .rd [] (.v (.int .i64 x.Fault.Add)), .rd [] (.v (.int .i64 x.Rolls)), .rd [] (.v (.int .i64 x.Again))]) rfl rfl rfl rfl ?_
  exact W_end [3, 4, 5, 6, 7, 8, 9, 10, 11, 12] (by decide) rfl (by kernel_rfl) (by kernel_rfl)
set_option maxHeartbeats 2000000 in
theorem sz_Peer (x : TPeer) (left : Int) (hg : Enc.gd x) (h0 : 0 ≤ left) (h1 : left ≤ 1048576) : Con Try.prog 7 [] [ag x, ai left] [] (I (szr (Enc.wt x) left)) := by
  obtain ⟨g_Me, g_Delay, g_Ahead, g_Seed, g_Tracks, g_Base, g_Now, g_Used, g_Saves, g_Sums, g_Fault, g_Rolls, g_Again⟩ := hg
  have hw : Enc.wt x = Enc.wt x.Tracks + Enc.wt x.Base + Enc.wt x.Now + Enc.wt x.Used + Enc.wt x.Saves + Enc.wt x.Sums + Enc.wt x.Fault := rfl
  have hm1 : decide ((-1 : Int) < 0) = true := rfl
  have hz_Fault : Enc.wt x.Fault = 0 := rfl
  have hc_Tracks := sz_TrackS x.Tracks (left) g_Tracks (by omega) (by omega)
  by_cases n_Tracks : left < Enc.wt x.Tracks
  · rw [szr_neg n_Tracks] at hc_Tracks
    refine Con.of Try.func7 rfl Try.ntmps7 rfl (fun E => ?_)
    refine A_seq ?_; refine A_region ?_; refine M1 (q_boxN rfl rfl rfl rfl) rfl rfl ?_; refine M0 (q_assignC rfl rfl rfl) rfl rfl ?_; refine L_nil ?_; refine T_n ?_; refine A_seq ?_
    refine A_region ?_; refine M0 (q_fldp rfl rfl rfl rfl (by decide)) rfl rfl ?_; refine M0 (q_ld1 rfl rfl rfl rfl rfl) rfl rfl ?_; refine M0 (q_moveC rfl rfl rfl) rfl rfl ?_
    refine M0 (q_call0 rfl rfl (hc_Tracks) rfl) rfl rfl ?_; refine M0 (q_assignC rfl rfl rfl) rfl rfl ?_; refine L_nil ?_; refine T_n ?_; refine A_seq ?_; refine A_seq ?_; refine A_region ?_
    refine M0 (q_moveC rfl rfl rfl) rfl rfl ?_; refine M0 (q_lssK rfl rfl rfl rfl (by assumption)) rfl rfl ?_; refine L_nil ?_; refine T_n ?_; refine A_ifT rfl ?_; refine A_seq ?_
    refine A_region ?_; refine M0 (q_assignC rfl rfl rfl) rfl rfl ?_; refine L_nil ?_; refine T_n ?_; refine A_ret ?_; refine T_r ?_; refine F_r ?_
    exact E_tmp rfl rfl (W_end [] (by decide) rfl rfl (I_eq (by rw [szr_neg (by omega)])))
  rw [szr_pos (by omega)] at hc_Tracks
  have hb_Tracks : decide (left - Enc.wt x.Tracks < 0) = false := decide_eq_false (by omega)
  have hc_Base := sz_World x.Base (left - Enc.wt x.Tracks) g_Base (by omega) (by omega)
  by_cases n_Base : left - Enc.wt x.Tracks < Enc.wt x.Base
  · rw [szr_neg n_Base] at hc_Base
    refine Con.of Try.func7 rfl Try.ntmps7 rfl (fun E => ?_)
    refine A_seq ?_; refine A_region ?_; refine M1 (q_boxN rfl rfl rfl rfl) rfl rfl ?_; refine M0 (q_assignC rfl rfl rfl) rfl rfl ?_; refine L_nil ?_; refine T_n ?_; refine A_seq ?_
    refine A_region ?_; refine M0 (q_fldp rfl rfl rfl rfl (by decide)) rfl rfl ?_; refine M0 (q_ld1 rfl rfl rfl rfl rfl) rfl rfl ?_; refine M0 (q_moveC rfl rfl rfl) rfl rfl ?_
    refine M0 (q_call0 rfl rfl (hc_Tracks) rfl) rfl rfl ?_; refine M0 (q_assignC rfl rfl rfl) rfl rfl ?_; refine L_nil ?_; refine T_n ?_; refine A_seq ?_; refine A_seq ?_; refine A_region ?_
    refine M0 (q_moveC rfl rfl rfl) rfl rfl ?_; refine M0 (q_lssK rfl rfl rfl rfl (by assumption)) rfl rfl ?_; refine L_nil ?_; refine T_n ?_; refine A_ifF rfl ?_; refine A_skip ?_; refine T_n ?_
    refine A_seq ?_; refine A_region ?_; refine M0 (q_fldp rfl rfl rfl rfl (by decide)) rfl rfl ?_; refine M0 (q_ldN rfl rfl rfl rfl rfl rfl) rfl rfl ?_
    refine M0 (q_moveC rfl rfl rfl) rfl rfl ?_; refine M0 (q_call0 rfl rfl (hc_Base) rfl) rfl rfl ?_; refine M0 (q_assignC rfl rfl rfl) rfl rfl ?_; refine L_nil ?_; refine T_n ?_
    refine A_seq ?_; refine A_seq ?_; refine A_region ?_; refine M0 (q_moveC rfl rfl rfl) rfl rfl ?_; refine M0 (q_lssK rfl rfl rfl rfl (by assumption)) rfl rfl ?_; refine L_nil ?_; refine T_n ?_
    refine A_ifT rfl ?_; refine A_seq ?_; refine A_region ?_; refine M0 (q_assignC rfl rfl rfl) rfl rfl ?_; refine L_nil ?_; refine T_n ?_; refine A_ret ?_; refine T_r ?_; refine F_r ?_
    exact E_tmp rfl rfl (W_end [] (by decide) rfl rfl (I_eq (by rw [szr_neg (by omega)])))
  rw [szr_pos (by omega)] at hc_Base
  have hb_Base : decide (left - Enc.wt x.Tracks - Enc.wt x.Base < 0) = false := decide_eq_false (by omega)
  have hc_Now := sz_World x.Now (left - Enc.wt x.Tracks - Enc.wt x.Base) g_Now (by omega) (by omega)
  by_cases n_Now : left - Enc.wt x.Tracks - Enc.wt x.Base < Enc.wt x.Now
  · rw [szr_neg n_Now] at hc_Now
    refine Con.of Try.func7 rfl Try.ntmps7 rfl (fun E => ?_)
    refine A_seq ?_; refine A_region ?_; refine M1 (q_boxN rfl rfl rfl rfl) rfl rfl ?_; refine M0 (q_assignC rfl rfl rfl) rfl rfl ?_; refine L_nil ?_; refine T_n ?_; refine A_seq ?_
    refine A_region ?_; refine M0 (q_fldp rfl rfl rfl rfl (by decide)) rfl rfl ?_; refine M0 (q_ld1 rfl rfl rfl rfl rfl) rfl rfl ?_; refine M0 (q_moveC rfl rfl rfl) rfl rfl ?_
    refine M0 (q_call0 rfl rfl (hc_Tracks) rfl) rfl rfl ?_; refine M0 (q_assignC rfl rfl rfl) rfl rfl ?_; refine L_nil ?_; refine T_n ?_; refine A_seq ?_; refine A_seq ?_; refine A_region ?_
    refine M0 (q_moveC rfl rfl rfl) rfl rfl ?_; refine M0 (q_lssK rfl rfl rfl rfl (by assumption)) rfl rfl ?_; refine L_nil ?_; refine T_n ?_; refine A_ifF rfl ?_; refine A_skip ?_; refine T_n ?_
    refine A_seq ?_; refine A_region ?_; refine M0 (q_fldp rfl rfl rfl rfl (by decide)) rfl rfl ?_; refine M0 (q_ldN rfl rfl rfl rfl rfl rfl) rfl rfl ?_
    refine M0 (q_moveC rfl rfl rfl) rfl rfl ?_; refine M0 (q_call0 rfl rfl (hc_Base) rfl) rfl rfl ?_; refine M0 (q_assignC rfl rfl rfl) rfl rfl ?_; refine L_nil ?_; refine T_n ?_
    refine A_seq ?_; refine A_seq ?_; refine A_region ?_; refine M0 (q_moveC rfl rfl rfl) rfl rfl ?_; refine M0 (q_lssK rfl rfl rfl rfl (by assumption)) rfl rfl ?_; refine L_nil ?_; refine T_n ?_
    refine A_ifF rfl ?_; refine A_skip ?_; refine T_n ?_; refine A_seq ?_; refine A_region ?_; refine M0 (q_fldp rfl rfl rfl rfl (by decide)) rfl rfl ?_
    refine M0 (q_ldN rfl rfl rfl rfl rfl rfl) rfl rfl ?_; refine M0 (q_moveC rfl rfl rfl) rfl rfl ?_; refine M0 (q_call0 rfl rfl (hc_Now) rfl) rfl rfl ?_
    refine M0 (q_assignC rfl rfl rfl) rfl rfl ?_; refine L_nil ?_; refine T_n ?_; refine A_seq ?_; refine A_seq ?_; refine A_region ?_; refine M0 (q_moveC rfl rfl rfl) rfl rfl ?_
    refine M0 (q_lssK rfl rfl rfl rfl (by assumption)) rfl rfl ?_; refine L_nil ?_; refine T_n ?_; refine A_ifT rfl ?_; refine A_seq ?_; refine A_region ?_
    refine M0 (q_assignC rfl rfl rfl) rfl rfl ?_; refine L_nil ?_; refine T_n ?_; refine A_ret ?_; refine T_r ?_; refine F_r ?_
    exact E_tmp rfl rfl (W_end [] (by decide) rfl rfl (I_eq (by rw [szr_neg (by omega)])))
  rw [szr_pos (by omega)] at hc_Now
  have hb_Now : decide (left - Enc.wt x.Tracks - Enc.wt x.Base - Enc.wt x.Now < 0) = false := decide_eq_false (by omega)
  have hc_Used := sz_IntSS x.Used (left - Enc.wt x.Tracks - Enc.wt x.Base - Enc.wt x.Now) g_Used (by omega) (by omega)
  by_cases n_Used : left - Enc.wt x.Tracks - Enc.wt x.Base - Enc.wt x.Now < Enc.wt x.Used
  · rw [szr_neg n_Used] at hc_Used
    refine Con.of Try.func7 rfl Try.ntmps7 rfl (fun E => ?_)
    refine A_seq ?_; refine A_region ?_; refine M1 (q_boxN rfl rfl rfl rfl) rfl rfl ?_; refine M0 (q_assignC rfl rfl rfl) rfl rfl ?_; refine L_nil ?_; refine T_n ?_; refine A_seq ?_
    refine A_region ?_; refine M0 (q_fldp rfl rfl rfl rfl (by decide)) rfl rfl ?_; refine M0 (q_ld1 rfl rfl rfl rfl rfl) rfl rfl ?_; refine M0 (q_moveC rfl rfl rfl) rfl rfl ?_
    refine M0 (q_call0 rfl rfl (hc_Tracks) rfl) rfl rfl ?_; refine M0 (q_assignC rfl rfl rfl) rfl rfl ?_; refine L_nil ?_; refine T_n ?_; refine A_seq ?_; refine A_seq ?_; refine A_region ?_
    refine M0 (q_moveC rfl rfl rfl) rfl rfl ?_; refine M0 (q_lssK rfl rfl rfl rfl (by assumption)) rfl rfl ?_; refine L_nil ?_; refine T_n ?_; refine A_ifF rfl ?_; refine A_skip ?_; refine T_n ?_
    refine A_seq ?_; refine A_region ?_; refine M0 (q_fldp rfl rfl rfl rfl (by decide)) rfl rfl ?_; refine M0 (q_ldN rfl rfl rfl rfl rfl rfl) rfl rfl ?_
    refine M0 (q_moveC rfl rfl rfl) rfl rfl ?_; refine M0 (q_call0 rfl rfl (hc_Base) rfl) rfl rfl ?_; refine M0 (q_assignC rfl rfl rfl) rfl rfl ?_; refine L_nil ?_; refine T_n ?_
    refine A_seq ?_; refine A_seq ?_; refine A_region ?_; refine M0 (q_moveC rfl rfl rfl) rfl rfl ?_; refine M0 (q_lssK rfl rfl rfl rfl (by assumption)) rfl rfl ?_; refine L_nil ?_; refine T_n ?_
    refine A_ifF rfl ?_; refine A_skip ?_; refine T_n ?_; refine A_seq ?_; refine A_region ?_; refine M0 (q_fldp rfl rfl rfl rfl (by decide)) rfl rfl ?_
    refine M0 (q_ldN rfl rfl rfl rfl rfl rfl) rfl rfl ?_; refine M0 (q_moveC rfl rfl rfl) rfl rfl ?_; refine M0 (q_call0 rfl rfl (hc_Now) rfl) rfl rfl ?_
    refine M0 (q_assignC rfl rfl rfl) rfl rfl ?_; refine L_nil ?_; refine T_n ?_; refine A_seq ?_; refine A_seq ?_; refine A_region ?_; refine M0 (q_moveC rfl rfl rfl) rfl rfl ?_
    refine M0 (q_lssK rfl rfl rfl rfl (by assumption)) rfl rfl ?_; refine L_nil ?_; refine T_n ?_; refine A_ifF rfl ?_; refine A_skip ?_; refine T_n ?_; refine A_seq ?_; refine A_region ?_
    refine M0 (q_fldp rfl rfl rfl rfl (by decide)) rfl rfl ?_; refine M0 (q_ld1 rfl rfl rfl rfl rfl) rfl rfl ?_; refine M0 (q_moveC rfl rfl rfl) rfl rfl ?_
    refine M0 (q_call0 rfl rfl (hc_Used) rfl) rfl rfl ?_; refine M0 (q_assignC rfl rfl rfl) rfl rfl ?_; refine L_nil ?_; refine T_n ?_; refine A_seq ?_; refine A_seq ?_; refine A_region ?_
    refine M0 (q_moveC rfl rfl rfl) rfl rfl ?_; refine M0 (q_lssK rfl rfl rfl rfl (by assumption)) rfl rfl ?_; refine L_nil ?_; refine T_n ?_; refine A_ifT rfl ?_; refine A_seq ?_
    refine A_region ?_; refine M0 (q_assignC rfl rfl rfl) rfl rfl ?_; refine L_nil ?_; refine T_n ?_; refine A_ret ?_; refine T_r ?_; refine F_r ?_
    exact E_tmp rfl rfl (W_end [] (by decide) rfl rfl (I_eq (by rw [szr_neg (by omega)])))
  rw [szr_pos (by omega)] at hc_Used
  have hb_Used : decide (left - Enc.wt x.Tracks - Enc.wt x.Base - Enc.wt x.Now - Enc.wt x.Used < 0) = false := decide_eq_false (by omega)
  have hc_Saves := sz_SaveS x.Saves (left - Enc.wt x.Tracks - Enc.wt x.Base - Enc.wt x.Now - Enc.wt x.Used) g_Saves (by omega) (by omega)
  by_cases n_Saves : left - Enc.wt x.Tracks - Enc.wt x.Base - Enc.wt x.Now - Enc.wt x.Used < Enc.wt x.Saves
  · rw [szr_neg n_Saves] at hc_Saves
    refine Con.of Try.func7 rfl Try.ntmps7 rfl (fun E => ?_)
    refine A_seq ?_; refine A_region ?_; refine M1 (q_boxN rfl rfl rfl rfl) rfl rfl ?_; refine M0 (q_assignC rfl rfl rfl) rfl rfl ?_; refine L_nil ?_; refine T_n ?_; refine A_seq ?_
    refine A_region ?_; refine M0 (q_fldp rfl rfl rfl rfl (by decide)) rfl rfl ?_; refine M0 (q_ld1 rfl rfl rfl rfl rfl) rfl rfl ?_; refine M0 (q_moveC rfl rfl rfl) rfl rfl ?_
    refine M0 (q_call0 rfl rfl (hc_Tracks) rfl) rfl rfl ?_; refine M0 (q_assignC rfl rfl rfl) rfl rfl ?_; refine L_nil ?_; refine T_n ?_; refine A_seq ?_; refine A_seq ?_; refine A_region ?_
    refine M0 (q_moveC rfl rfl rfl) rfl rfl ?_; refine M0 (q_lssK rfl rfl rfl rfl (by assumption)) rfl rfl ?_; refine L_nil ?_; refine T_n ?_; refine A_ifF rfl ?_; refine A_skip ?_; refine T_n ?_
    refine A_seq ?_; refine A_region ?_; refine M0 (q_fldp rfl rfl rfl rfl (by decide)) rfl rfl ?_; refine M0 (q_ldN rfl rfl rfl rfl rfl rfl) rfl rfl ?_
    refine M0 (q_moveC rfl rfl rfl) rfl rfl ?_; refine M0 (q_call0 rfl rfl (hc_Base) rfl) rfl rfl ?_; refine M0 (q_assignC rfl rfl rfl) rfl rfl ?_; refine L_nil ?_; refine T_n ?_
    refine A_seq ?_; refine A_seq ?_; refine A_region ?_; refine M0 (q_moveC rfl rfl rfl) rfl rfl ?_; refine M0 (q_lssK rfl rfl rfl rfl (by assumption)) rfl rfl ?_; refine L_nil ?_; refine T_n ?_
    refine A_ifF rfl ?_; refine A_skip ?_; refine T_n ?_; refine A_seq ?_; refine A_region ?_; refine M0 (q_fldp rfl rfl rfl rfl (by decide)) rfl rfl ?_
    refine M0 (q_ldN rfl rfl rfl rfl rfl rfl) rfl rfl ?_; refine M0 (q_moveC rfl rfl rfl) rfl rfl ?_; refine M0 (q_call0 rfl rfl (hc_Now) rfl) rfl rfl ?_
    refine M0 (q_assignC rfl rfl rfl) rfl rfl ?_; refine L_nil ?_; refine T_n ?_; refine A_seq ?_; refine A_seq ?_; refine A_region ?_; refine M0 (q_moveC rfl rfl rfl) rfl rfl ?_
    refine M0 (q_lssK rfl rfl rfl rfl (by assumption)) rfl rfl ?_; refine L_nil ?_; refine T_n ?_; refine A_ifF rfl ?_; refine A_skip ?_; refine T_n ?_; refine A_seq ?_; refine A_region ?_
    refine M0 (q_fldp rfl rfl rfl rfl (by decide)) rfl rfl ?_; refine M0 (q_ld1 rfl rfl rfl rfl rfl) rfl rfl ?_; refine M0 (q_moveC rfl rfl rfl) rfl rfl ?_
    refine M0 (q_call0 rfl rfl (hc_Used) rfl) rfl rfl ?_; refine M0 (q_assignC rfl rfl rfl) rfl rfl ?_; refine L_nil ?_; refine T_n ?_; refine A_seq ?_; refine A_seq ?_; refine A_region ?_
    refine M0 (q_moveC rfl rfl rfl) rfl rfl ?_; refine M0 (q_lssK rfl rfl rfl rfl (by assumption)) rfl rfl ?_; refine L_nil ?_; refine T_n ?_; refine A_ifF rfl ?_; refine A_skip ?_; refine T_n ?_
    refine A_seq ?_; refine A_region ?_; refine M0 (q_fldp rfl rfl rfl rfl (by decide)) rfl rfl ?_; refine M0 (q_ld1 rfl rfl rfl rfl rfl) rfl rfl ?_; refine M0 (q_moveC rfl rfl rfl) rfl rfl ?_
    refine M0 (q_call0 rfl rfl (hc_Saves) rfl) rfl rfl ?_; refine M0 (q_assignC rfl rfl rfl) rfl rfl ?_; refine L_nil ?_; refine T_n ?_; refine A_seq ?_; refine A_seq ?_; refine A_region ?_
    refine M0 (q_moveC rfl rfl rfl) rfl rfl ?_; refine M0 (q_lssK rfl rfl rfl rfl (by assumption)) rfl rfl ?_; refine L_nil ?_; refine T_n ?_; refine A_ifT rfl ?_; refine A_seq ?_
    refine A_region ?_; refine M0 (q_assignC rfl rfl rfl) rfl rfl ?_; refine L_nil ?_; refine T_n ?_; refine A_ret ?_; refine T_r ?_; refine F_r ?_
    exact E_tmp rfl rfl (W_end [] (by decide) rfl rfl (I_eq (by rw [szr_neg (by omega)])))
  rw [szr_pos (by omega)] at hc_Saves
  have hb_Saves : decide (left - Enc.wt x.Tracks - Enc.wt x.Base - Enc.wt x.Now - Enc.wt x.Used - Enc.wt x.Saves < 0) = false := decide_eq_false (by omega)
  have hc_Sums := sz_IntS x.Sums (left - Enc.wt x.Tracks - Enc.wt x.Base - Enc.wt x.Now - Enc.wt x.Used - Enc.wt x.Saves) g_Sums (by omega) (by omega)
  by_cases n_Sums : left - Enc.wt x.Tracks - Enc.wt x.Base - Enc.wt x.Now - Enc.wt x.Used - Enc.wt x.Saves < Enc.wt x.Sums
  · rw [szr_neg n_Sums] at hc_Sums
    refine Con.of Try.func7 rfl Try.ntmps7 rfl (fun E => ?_)
    refine A_seq ?_; refine A_region ?_; refine M1 (q_boxN rfl rfl rfl rfl) rfl rfl ?_; refine M0 (q_assignC rfl rfl rfl) rfl rfl ?_; refine L_nil ?_; refine T_n ?_; refine A_seq ?_
    refine A_region ?_; refine M0 (q_fldp rfl rfl rfl rfl (by decide)) rfl rfl ?_; refine M0 (q_ld1 rfl rfl rfl rfl rfl) rfl rfl ?_; refine M0 (q_moveC rfl rfl rfl) rfl rfl ?_
    refine M0 (q_call0 rfl rfl (hc_Tracks) rfl) rfl rfl ?_; refine M0 (q_assignC rfl rfl rfl) rfl rfl ?_; refine L_nil ?_; refine T_n ?_; refine A_seq ?_; refine A_seq ?_; refine A_region ?_
    refine M0 (q_moveC rfl rfl rfl) rfl rfl ?_; refine M0 (q_lssK rfl rfl rfl rfl (by assumption)) rfl rfl ?_; refine L_nil ?_; refine T_n ?_; refine A_ifF rfl ?_; refine A_skip ?_; refine T_n ?_
    refine A_seq ?_; refine A_region ?_; refine M0 (q_fldp rfl rfl rfl rfl (by decide)) rfl rfl ?_; refine M0 (q_ldN rfl rfl rfl rfl rfl rfl) rfl rfl ?_
    refine M0 (q_moveC rfl rfl rfl) rfl rfl ?_; refine M0 (q_call0 rfl rfl (hc_Base) rfl) rfl rfl ?_; refine M0 (q_assignC rfl rfl rfl) rfl rfl ?_; refine L_nil ?_; refine T_n ?_
    refine A_seq ?_; refine A_seq ?_; refine A_region ?_; refine M0 (q_moveC rfl rfl rfl) rfl rfl ?_; refine M0 (q_lssK rfl rfl rfl rfl (by assumption)) rfl rfl ?_; refine L_nil ?_; refine T_n ?_
    refine A_ifF rfl ?_; refine A_skip ?_; refine T_n ?_; refine A_seq ?_; refine A_region ?_; refine M0 (q_fldp rfl rfl rfl rfl (by decide)) rfl rfl ?_
    refine M0 (q_ldN rfl rfl rfl rfl rfl rfl) rfl rfl ?_; refine M0 (q_moveC rfl rfl rfl) rfl rfl ?_; refine M0 (q_call0 rfl rfl (hc_Now) rfl) rfl rfl ?_
    refine M0 (q_assignC rfl rfl rfl) rfl rfl ?_; refine L_nil ?_; refine T_n ?_; refine A_seq ?_; refine A_seq ?_; refine A_region ?_; refine M0 (q_moveC rfl rfl rfl) rfl rfl ?_
    refine M0 (q_lssK rfl rfl rfl rfl (by assumption)) rfl rfl ?_; refine L_nil ?_; refine T_n ?_; refine A_ifF rfl ?_; refine A_skip ?_; refine T_n ?_; refine A_seq ?_; refine A_region ?_
    refine M0 (q_fldp rfl rfl rfl rfl (by decide)) rfl rfl ?_; refine M0 (q_ld1 rfl rfl rfl rfl rfl) rfl rfl ?_; refine M0 (q_moveC rfl rfl rfl) rfl rfl ?_
    refine M0 (q_call0 rfl rfl (hc_Used) rfl) rfl rfl ?_; refine M0 (q_assignC rfl rfl rfl) rfl rfl ?_; refine L_nil ?_; refine T_n ?_; refine A_seq ?_; refine A_seq ?_; refine A_region ?_
    refine M0 (q_moveC rfl rfl rfl) rfl rfl ?_; refine M0 (q_lssK rfl rfl rfl rfl (by assumption)) rfl rfl ?_; refine L_nil ?_; refine T_n ?_; refine A_ifF rfl ?_; refine A_skip ?_; refine T_n ?_
    refine A_seq ?_; refine A_region ?_; refine M0 (q_fldp rfl rfl rfl rfl (by decide)) rfl rfl ?_; refine M0 (q_ld1 rfl rfl rfl rfl rfl) rfl rfl ?_; refine M0 (q_moveC rfl rfl rfl) rfl rfl ?_
    refine M0 (q_call0 rfl rfl (hc_Saves) rfl) rfl rfl ?_; refine M0 (q_assignC rfl rfl rfl) rfl rfl ?_; refine L_nil ?_; refine T_n ?_; refine A_seq ?_; refine A_seq ?_; refine A_region ?_
    refine M0 (q_moveC rfl rfl rfl) rfl rfl ?_; refine M0 (q_lssK rfl rfl rfl rfl (by assumption)) rfl rfl ?_; refine L_nil ?_; refine T_n ?_; refine A_ifF rfl ?_; refine A_skip ?_; refine T_n ?_
    refine A_seq ?_; refine A_region ?_; refine M0 (q_fldp rfl rfl rfl rfl (by decide)) rfl rfl ?_; refine M0 (q_ld1 rfl rfl rfl rfl rfl) rfl rfl ?_; refine M0 (q_moveC rfl rfl rfl) rfl rfl ?_
    refine M0 (q_call0 rfl rfl (hc_Sums) rfl) rfl rfl ?_; refine M0 (q_assignC rfl rfl rfl) rfl rfl ?_; refine L_nil ?_; refine T_n ?_; refine A_seq ?_; refine A_seq ?_; refine A_region ?_
    refine M0 (q_moveC rfl rfl rfl) rfl rfl ?_; refine M0 (q_lssK rfl rfl rfl rfl (by assumption)) rfl rfl ?_; refine L_nil ?_; refine T_n ?_; refine A_ifT rfl ?_; refine A_seq ?_
    refine A_region ?_; refine M0 (q_assignC rfl rfl rfl) rfl rfl ?_; refine L_nil ?_; refine T_n ?_; refine A_ret ?_; refine T_r ?_; refine F_r ?_
    exact E_tmp rfl rfl (W_end [] (by decide) rfl rfl (I_eq (by rw [szr_neg (by omega)])))
  rw [szr_pos (by omega)] at hc_Sums
  have hb_Sums : decide (left - Enc.wt x.Tracks - Enc.wt x.Base - Enc.wt x.Now - Enc.wt x.Used - Enc.wt x.Saves - Enc.wt x.Sums < 0) = false := decide_eq_false (by omega)
  refine Con.of Try.func7 rfl Try.ntmps7 rfl (fun E => ?_)
  refine A_seq ?_; refine A_region ?_; refine M1 (q_boxN rfl rfl rfl rfl) rfl rfl ?_; refine M0 (q_assignC rfl rfl rfl) rfl rfl ?_; refine L_nil ?_; refine T_n ?_; refine A_seq ?_
  refine A_region ?_; refine M0 (q_fldp rfl rfl rfl rfl (by decide)) rfl rfl ?_; refine M0 (q_ld1 rfl rfl rfl rfl rfl) rfl rfl ?_; refine M0 (q_moveC rfl rfl rfl) rfl rfl ?_
  refine M0 (q_call0 rfl rfl (hc_Tracks) rfl) rfl rfl ?_; refine M0 (q_assignC rfl rfl rfl) rfl rfl ?_; refine L_nil ?_; refine T_n ?_; refine A_seq ?_; refine A_seq ?_; refine A_region ?_
  refine M0 (q_moveC rfl rfl rfl) rfl rfl ?_; refine M0 (q_lssK rfl rfl rfl rfl (by assumption)) rfl rfl ?_; refine L_nil ?_; refine T_n ?_; refine A_ifF rfl ?_; refine A_skip ?_; refine T_n ?_
  refine A_seq ?_; refine A_region ?_; refine M0 (q_fldp rfl rfl rfl rfl (by decide)) rfl rfl ?_; refine M0 (q_ldN rfl rfl rfl rfl rfl rfl) rfl rfl ?_
  refine M0 (q_moveC rfl rfl rfl) rfl rfl ?_; refine M0 (q_call0 rfl rfl (hc_Base) rfl) rfl rfl ?_; refine M0 (q_assignC rfl rfl rfl) rfl rfl ?_; refine L_nil ?_; refine T_n ?_
  refine A_seq ?_; refine A_seq ?_; refine A_region ?_; refine M0 (q_moveC rfl rfl rfl) rfl rfl ?_; refine M0 (q_lssK rfl rfl rfl rfl (by assumption)) rfl rfl ?_; refine L_nil ?_; refine T_n ?_
  refine A_ifF rfl ?_; refine A_skip ?_; refine T_n ?_; refine A_seq ?_; refine A_region ?_; refine M0 (q_fldp rfl rfl rfl rfl (by decide)) rfl rfl ?_
  refine M0 (q_ldN rfl rfl rfl rfl rfl rfl) rfl rfl ?_; refine M0 (q_moveC rfl rfl rfl) rfl rfl ?_; refine M0 (q_call0 rfl rfl (hc_Now) rfl) rfl rfl ?_
  refine M0 (q_assignC rfl rfl rfl) rfl rfl ?_; refine L_nil ?_; refine T_n ?_; refine A_seq ?_; refine A_seq ?_; refine A_region ?_; refine M0 (q_moveC rfl rfl rfl) rfl rfl ?_
  refine M0 (q_lssK rfl rfl rfl rfl (by assumption)) rfl rfl ?_; refine L_nil ?_; refine T_n ?_; refine A_ifF rfl ?_; refine A_skip ?_; refine T_n ?_; refine A_seq ?_; refine A_region ?_
  refine M0 (q_fldp rfl rfl rfl rfl (by decide)) rfl rfl ?_; refine M0 (q_ld1 rfl rfl rfl rfl rfl) rfl rfl ?_; refine M0 (q_moveC rfl rfl rfl) rfl rfl ?_
  refine M0 (q_call0 rfl rfl (hc_Used) rfl) rfl rfl ?_; refine M0 (q_assignC rfl rfl rfl) rfl rfl ?_; refine L_nil ?_; refine T_n ?_; refine A_seq ?_; refine A_seq ?_; refine A_region ?_
  refine M0 (q_moveC rfl rfl rfl) rfl rfl ?_; refine M0 (q_lssK rfl rfl rfl rfl (by assumption)) rfl rfl ?_; refine L_nil ?_; refine T_n ?_; refine A_ifF rfl ?_; refine A_skip ?_; refine T_n ?_
  refine A_seq ?_; refine A_region ?_; refine M0 (q_fldp rfl rfl rfl rfl (by decide)) rfl rfl ?_; refine M0 (q_ld1 rfl rfl rfl rfl rfl) rfl rfl ?_; refine M0 (q_moveC rfl rfl rfl) rfl rfl ?_
  refine M0 (q_call0 rfl rfl (hc_Saves) rfl) rfl rfl ?_; refine M0 (q_assignC rfl rfl rfl) rfl rfl ?_; refine L_nil ?_; refine T_n ?_; refine A_seq ?_; refine A_seq ?_; refine A_region ?_
  refine M0 (q_moveC rfl rfl rfl) rfl rfl ?_; refine M0 (q_lssK rfl rfl rfl rfl (by assumption)) rfl rfl ?_; refine L_nil ?_; refine T_n ?_; refine A_ifF rfl ?_; refine A_skip ?_; refine T_n ?_
  refine A_seq ?_; refine A_region ?_; refine M0 (q_fldp rfl rfl rfl rfl (by decide)) rfl rfl ?_; refine M0 (q_ld1 rfl rfl rfl rfl rfl) rfl rfl ?_; refine M0 (q_moveC rfl rfl rfl) rfl rfl ?_
  refine M0 (q_call0 rfl rfl (hc_Sums) rfl) rfl rfl ?_; refine M0 (q_assignC rfl rfl rfl) rfl rfl ?_; refine L_nil ?_; refine T_n ?_; refine A_seq ?_; refine A_seq ?_; refine A_region ?_
  refine M0 (q_moveC rfl rfl rfl) rfl rfl ?_; refine M0 (q_lssK rfl rfl rfl rfl (by assumption)) rfl rfl ?_; refine L_nil ?_; refine T_n ?_; refine A_ifF rfl ?_; refine A_skip ?_; refine T_n ?_
  refine A_seq ?_; refine A_region ?_; refine M0 (q_moveC rfl rfl rfl) rfl rfl ?_; refine M0 (q_assignC rfl rfl rfl) rfl rfl ?_; refine L_nil ?_; refine T_n ?_; refine A_ret ?_; refine F_r ?_
  exact E_tmp rfl rfl (W_end [] (by decide) rfl rfl (I_eq (by rw [szr_pos (by omega)]; omega)))
set_option maxHeartbeats 2000000 in
theorem eq_Peer (x y : TPeer) (hg : Enc.gd x) : Con Try.prog 11 [] [ag x, ag y] [] (B (decide (x = y))) := by
  obtain ⟨g_Me, g_Delay, g_Ahead, g_Seed, g_Tracks, g_Base, g_Now, g_Used, g_Saves, g_Sums, g_Fault, g_Rolls, g_Again⟩ := hg
  by_cases e_Me : ¬ x.Me = y.Me
  · have hk : decide (x.Me ≠ y.Me) = true := by simp [e_Me]
    refine Con.of Try.func11 rfl Try.ntmps11 rfl (fun E => ?_)
    refine A_seq ?_; refine A_region ?_; refine M1 (q_boxN rfl rfl rfl rfl) rfl rfl ?_; refine M1 (q_boxN rfl rfl rfl rfl) rfl rfl ?_; refine M0 (q_assignC rfl rfl rfl) rfl rfl ?_
    refine L_nil ?_; refine T_n ?_; refine A_seq ?_; refine A_seq ?_; refine A_region ?_; refine M0 (q_fldp rfl rfl rfl rfl (by decide)) rfl rfl ?_
    refine M0 (q_ld1 rfl rfl rfl rfl rfl) rfl rfl ?_; refine M0 (q_fldp rfl rfl rfl rfl (by decide)) rfl rfl ?_; refine M0 (q_ld1 rfl rfl rfl rfl rfl) rfl rfl ?_
    refine M0 (q_neqK rfl rfl rfl rfl (by assumption)) rfl rfl ?_; refine L_nil ?_; refine T_n ?_; refine A_ifT rfl ?_; refine A_seq ?_; refine A_region ?_
    refine M0 (q_assignC rfl rfl rfl) rfl rfl ?_; refine L_nil ?_; refine T_n ?_; refine A_ret ?_; refine T_r ?_; refine F_r ?_
    exact E_tmp rfl rfl (W_end [] (by decide) rfl rfl (B_eq (decide_eq_false fun e => e_Me (by rw [e])).symm))
  have e_Me := Classical.not_not.1 e_Me
  have k_Me : decide (x.Me ≠ y.Me) = false := by simp [e_Me]
  by_cases e_Delay : ¬ x.Delay = y.Delay
  · have hk : decide (x.Delay ≠ y.Delay) = true := by simp [e_Delay]
    refine Con.of Try.func11 rfl Try.ntmps11 rfl (fun E => ?_)
    refine A_seq ?_; refine A_region ?_; refine M1 (q_boxN rfl rfl rfl rfl) rfl rfl ?_; refine M1 (q_boxN rfl rfl rfl rfl) rfl rfl ?_; refine M0 (q_assignC rfl rfl rfl) rfl rfl ?_
    refine L_nil ?_; refine T_n ?_; refine A_seq ?_; refine A_seq ?_; refine A_region ?_; refine M0 (q_fldp rfl rfl rfl rfl (by decide)) rfl rfl ?_
    refine M0 (q_ld1 rfl rfl rfl rfl rfl) rfl rfl ?_; refine M0 (q_fldp rfl rfl rfl rfl (by decide)) rfl rfl ?_; refine M0 (q_ld1 rfl rfl rfl rfl rfl) rfl rfl ?_
    refine M0 (q_neqK rfl rfl rfl rfl (by assumption)) rfl rfl ?_; refine L_nil ?_; refine T_n ?_; refine A_ifF rfl ?_; refine A_skip ?_; refine T_n ?_; refine A_seq ?_; refine A_seq ?_
    refine A_region ?_; refine M0 (q_fldp rfl rfl rfl rfl (by decide)) rfl rfl ?_; refine M0 (q_ld1 rfl rfl rfl rfl rfl) rfl rfl ?_; refine M0 (q_fldp rfl rfl rfl rfl (by decide)) rfl rfl ?_
    refine M0 (q_ld1 rfl rfl rfl rfl rfl) rfl rfl ?_; refine M0 (q_neqK rfl rfl rfl rfl (by assumption)) rfl rfl ?_; refine L_nil ?_; refine T_n ?_; refine A_ifT rfl ?_; refine A_seq ?_
    refine A_region ?_; refine M0 (q_assignC rfl rfl rfl) rfl rfl ?_; refine L_nil ?_; refine T_n ?_; refine A_ret ?_; refine T_r ?_; refine F_r ?_
    exact E_tmp rfl rfl (W_end [] (by decide) rfl rfl (B_eq (decide_eq_false fun e => e_Delay (by rw [e])).symm))
  have e_Delay := Classical.not_not.1 e_Delay
  have k_Delay : decide (x.Delay ≠ y.Delay) = false := by simp [e_Delay]
  by_cases e_Ahead : ¬ x.Ahead = y.Ahead
  · have hk : decide (x.Ahead ≠ y.Ahead) = true := by simp [e_Ahead]
    refine Con.of Try.func11 rfl Try.ntmps11 rfl (fun E => ?_)
    refine A_seq ?_; refine A_region ?_; refine M1 (q_boxN rfl rfl rfl rfl) rfl rfl ?_; refine M1 (q_boxN rfl rfl rfl rfl) rfl rfl ?_; refine M0 (q_assignC rfl rfl rfl) rfl rfl ?_
    refine L_nil ?_; refine T_n ?_; refine A_seq ?_; refine A_seq ?_; refine A_region ?_; refine M0 (q_fldp rfl rfl rfl rfl (by decide)) rfl rfl ?_
    refine M0 (q_ld1 rfl rfl rfl rfl rfl) rfl rfl ?_; refine M0 (q_fldp rfl rfl rfl rfl (by decide)) rfl rfl ?_; refine M0 (q_ld1 rfl rfl rfl rfl rfl) rfl rfl ?_
    refine M0 (q_neqK rfl rfl rfl rfl (by assumption)) rfl rfl ?_; refine L_nil ?_; refine T_n ?_; refine A_ifF rfl ?_; refine A_skip ?_; refine T_n ?_; refine A_seq ?_; refine A_seq ?_
    refine A_region ?_; refine M0 (q_fldp rfl rfl rfl rfl (by decide)) rfl rfl ?_; refine M0 (q_ld1 rfl rfl rfl rfl rfl) rfl rfl ?_; refine M0 (q_fldp rfl rfl rfl rfl (by decide)) rfl rfl ?_
    refine M0 (q_ld1 rfl rfl rfl rfl rfl) rfl rfl ?_; refine M0 (q_neqK rfl rfl rfl rfl (by assumption)) rfl rfl ?_; refine L_nil ?_; refine T_n ?_; refine A_ifF rfl ?_; refine A_skip ?_
    refine T_n ?_; refine A_seq ?_; refine A_seq ?_; refine A_region ?_; refine M0 (q_fldp rfl rfl rfl rfl (by decide)) rfl rfl ?_; refine M0 (q_ld1 rfl rfl rfl rfl rfl) rfl rfl ?_
    refine M0 (q_fldp rfl rfl rfl rfl (by decide)) rfl rfl ?_; refine M0 (q_ld1 rfl rfl rfl rfl rfl) rfl rfl ?_; refine M0 (q_neqK rfl rfl rfl rfl (by assumption)) rfl rfl ?_
    refine L_nil ?_; refine T_n ?_; refine A_ifT rfl ?_; refine A_seq ?_; refine A_region ?_; refine M0 (q_assignC rfl rfl rfl) rfl rfl ?_; refine L_nil ?_; refine T_n ?_; refine A_ret ?_; refine T_r ?_
    refine F_r ?_
    exact E_tmp rfl rfl (W_end [] (by decide) rfl rfl (B_eq (decide_eq_false fun e => e_Ahead (by rw [e])).symm))
  have e_Ahead := Classical.not_not.1 e_Ahead
  have k_Ahead : decide (x.Ahead ≠ y.Ahead) = false := by simp [e_Ahead]
  by_cases e_Seed : ¬ x.Seed = y.Seed
  · have hk : decide (x.Seed ≠ y.Seed) = true := by simp [e_Seed]
    refine Con.of Try.func11 rfl Try.ntmps11 rfl (fun E => ?_)
    refine A_seq ?_; refine A_region ?_; refine M1 (q_boxN rfl rfl rfl rfl) rfl rfl ?_; refine M1 (q_boxN rfl rfl rfl rfl) rfl rfl ?_; refine M0 (q_assignC rfl rfl rfl) rfl rfl ?_
    refine L_nil ?_; refine T_n ?_; refine A_seq ?_; refine A_seq ?_; refine A_region ?_; refine M0 (q_fldp rfl rfl rfl rfl (by decide)) rfl rfl ?_
    refine M0 (q_ld1 rfl rfl rfl rfl rfl) rfl rfl ?_; refine M0 (q_fldp rfl rfl rfl rfl (by decide)) rfl rfl ?_; refine M0 (q_ld1 rfl rfl rfl rfl rfl) rfl rfl ?_
    refine M0 (q_neqK rfl rfl rfl rfl (by assumption)) rfl rfl ?_; refine L_nil ?_; refine T_n ?_; refine A_ifF rfl ?_; refine A_skip ?_; refine T_n ?_; refine A_seq ?_; refine A_seq ?_
    refine A_region ?_; refine M0 (q_fldp rfl rfl rfl rfl (by decide)) rfl rfl ?_; refine M0 (q_ld1 rfl rfl rfl rfl rfl) rfl rfl ?_; refine M0 (q_fldp rfl rfl rfl rfl (by decide)) rfl rfl ?_
    refine M0 (q_ld1 rfl rfl rfl rfl rfl) rfl rfl ?_; refine M0 (q_neqK rfl rfl rfl rfl (by assumption)) rfl rfl ?_; refine L_nil ?_; refine T_n ?_; refine A_ifF rfl ?_; refine A_skip ?_
    refine T_n ?_; refine A_seq ?_; refine A_seq ?_; refine A_region ?_; refine M0 (q_fldp rfl rfl rfl rfl (by decide)) rfl rfl ?_; refine M0 (q_ld1 rfl rfl rfl rfl rfl) rfl rfl ?_
    refine M0 (q_fldp rfl rfl rfl rfl (by decide)) rfl rfl ?_; refine M0 (q_ld1 rfl rfl rfl rfl rfl) rfl rfl ?_; refine M0 (q_neqK rfl rfl rfl rfl (by assumption)) rfl rfl ?_
    refine L_nil ?_; refine T_n ?_; refine A_ifF rfl ?_; refine A_skip ?_; refine T_n ?_; refine A_seq ?_; refine A_seq ?_; refine A_region ?_
    refine M0 (q_fldp rfl rfl rfl rfl (by decide)) rfl rfl ?_; refine M0 (q_ld1 rfl rfl rfl rfl rfl) rfl rfl ?_; refine M0 (q_fldp rfl rfl rfl rfl (by decide)) rfl rfl ?_
    refine M0 (q_ld1 rfl rfl rfl rfl rfl) rfl rfl ?_; refine M0 (q_neqK rfl rfl rfl rfl (by assumption)) rfl rfl ?_; refine L_nil ?_; refine T_n ?_; refine A_ifT rfl ?_; refine A_seq ?_
    refine A_region ?_; refine M0 (q_assignC rfl rfl rfl) rfl rfl ?_; refine L_nil ?_; refine T_n ?_; refine A_ret ?_; refine T_r ?_; refine F_r ?_
    exact E_tmp rfl rfl (W_end [] (by decide) rfl rfl (B_eq (decide_eq_false fun e => e_Seed (by rw [e])).symm))
  have e_Seed := Classical.not_not.1 e_Seed
  have k_Seed : decide (x.Seed ≠ y.Seed) = false := by simp [e_Seed]
  by_cases e_Tracks : ¬ x.Tracks = y.Tracks
  · have hc := eq_TrackS x.Tracks y.Tracks g_Tracks
    rw [decide_eq_false e_Tracks] at hc
    refine Con.of Try.func11 rfl Try.ntmps11 rfl (fun E => ?_)
    refine A_seq ?_; refine A_region ?_; refine M1 (q_boxN rfl rfl rfl rfl) rfl rfl ?_; refine M1 (q_boxN rfl rfl rfl rfl) rfl rfl ?_; refine M0 (q_assignC rfl rfl rfl) rfl rfl ?_
    refine L_nil ?_; refine T_n ?_; refine A_seq ?_; refine A_seq ?_; refine A_region ?_; refine M0 (q_fldp rfl rfl rfl rfl (by decide)) rfl rfl ?_
    refine M0 (q_ld1 rfl rfl rfl rfl rfl) rfl rfl ?_; refine M0 (q_fldp rfl rfl rfl rfl (by decide)) rfl rfl ?_; refine M0 (q_ld1 rfl rfl rfl rfl rfl) rfl rfl ?_
    refine M0 (q_neqK rfl rfl rfl rfl (by assumption)) rfl rfl ?_; refine L_nil ?_; refine T_n ?_; refine A_ifF rfl ?_; refine A_skip ?_; refine T_n ?_; refine A_seq ?_; refine A_seq ?_
    refine A_region ?_; refine M0 (q_fldp rfl rfl rfl rfl (by decide)) rfl rfl ?_; refine M0 (q_ld1 rfl rfl rfl rfl rfl) rfl rfl ?_; refine M0 (q_fldp rfl rfl rfl rfl (by decide)) rfl rfl ?_
    refine M0 (q_ld1 rfl rfl rfl rfl rfl) rfl rfl ?_; refine M0 (q_neqK rfl rfl rfl rfl (by assumption)) rfl rfl ?_; refine L_nil ?_; refine T_n ?_; refine A_ifF rfl ?_; refine A_skip ?_
    refine T_n ?_; refine A_seq ?_; refine A_seq ?_; refine A_region ?_; refine M0 (q_fldp rfl rfl rfl rfl (by decide)) rfl rfl ?_; refine M0 (q_ld1 rfl rfl rfl rfl rfl) rfl rfl ?_
    refine M0 (q_fldp rfl rfl rfl rfl (by decide)) rfl rfl ?_; refine M0 (q_ld1 rfl rfl rfl rfl rfl) rfl rfl ?_; refine M0 (q_neqK rfl rfl rfl rfl (by assumption)) rfl rfl ?_
    refine L_nil ?_; refine T_n ?_; refine A_ifF rfl ?_; refine A_skip ?_; refine T_n ?_; refine A_seq ?_; refine A_seq ?_; refine A_region ?_
    refine M0 (q_fldp rfl rfl rfl rfl (by decide)) rfl rfl ?_; refine M0 (q_ld1 rfl rfl rfl rfl rfl) rfl rfl ?_; refine M0 (q_fldp rfl rfl rfl rfl (by decide)) rfl rfl ?_
    refine M0 (q_ld1 rfl rfl rfl rfl rfl) rfl rfl ?_; refine M0 (q_neqK rfl rfl rfl rfl (by assumption)) rfl rfl ?_; refine L_nil ?_; refine T_n ?_; refine A_ifF rfl ?_; refine A_skip ?_
    refine T_n ?_; refine A_seq ?_; refine A_seq ?_; refine A_region ?_; refine M0 (q_fldp rfl rfl rfl rfl (by decide)) rfl rfl ?_; refine M0 (q_ld1 rfl rfl rfl rfl rfl) rfl rfl ?_
    refine M0 (q_fldp rfl rfl rfl rfl (by decide)) rfl rfl ?_; refine M0 (q_ld1 rfl rfl rfl rfl rfl) rfl rfl ?_; refine M0 (q_call0 rfl rfl (hc) rfl) rfl rfl ?_
    refine M0 (q_not rfl rfl rfl) rfl rfl ?_; refine L_nil ?_; refine T_n ?_; refine A_ifT rfl ?_; refine A_seq ?_; refine A_region ?_; refine M0 (q_assignC rfl rfl rfl) rfl rfl ?_; refine L_nil ?_
    refine T_n ?_; refine A_ret ?_; refine T_r ?_; refine F_r ?_
    exact E_tmp rfl rfl (W_end [] (by decide) rfl rfl (B_eq (decide_eq_false fun e => e_Tracks (by rw [e])).symm))
  have e_Tracks := Classical.not_not.1 e_Tracks
  have hc_Tracks := eq_TrackS x.Tracks y.Tracks g_Tracks
  rw [decide_eq_true e_Tracks] at hc_Tracks
  by_cases e_Base : ¬ x.Base = y.Base
  · have hc := eq_World x.Base y.Base g_Base
    rw [decide_eq_false e_Base] at hc
    refine Con.of Try.func11 rfl Try.ntmps11 rfl (fun E => ?_)
    refine A_seq ?_; refine A_region ?_; refine M1 (q_boxN rfl rfl rfl rfl) rfl rfl ?_; refine M1 (q_boxN rfl rfl rfl rfl) rfl rfl ?_; refine M0 (q_assignC rfl rfl rfl) rfl rfl ?_
    refine L_nil ?_; refine T_n ?_; refine A_seq ?_; refine A_seq ?_; refine A_region ?_; refine M0 (q_fldp rfl rfl rfl rfl (by decide)) rfl rfl ?_
    refine M0 (q_ld1 rfl rfl rfl rfl rfl) rfl rfl ?_; refine M0 (q_fldp rfl rfl rfl rfl (by decide)) rfl rfl ?_; refine M0 (q_ld1 rfl rfl rfl rfl rfl) rfl rfl ?_
    refine M0 (q_neqK rfl rfl rfl rfl (by assumption)) rfl rfl ?_; refine L_nil ?_; refine T_n ?_; refine A_ifF rfl ?_; refine A_skip ?_; refine T_n ?_; refine A_seq ?_; refine A_seq ?_
    refine A_region ?_; refine M0 (q_fldp rfl rfl rfl rfl (by decide)) rfl rfl ?_; refine M0 (q_ld1 rfl rfl rfl rfl rfl) rfl rfl ?_; refine M0 (q_fldp rfl rfl rfl rfl (by decide)) rfl rfl ?_
    refine M0 (q_ld1 rfl rfl rfl rfl rfl) rfl rfl ?_; refine M0 (q_neqK rfl rfl rfl rfl (by assumption)) rfl rfl ?_; refine L_nil ?_; refine T_n ?_; refine A_ifF rfl ?_; refine A_skip ?_
    refine T_n ?_; refine A_seq ?_; refine A_seq ?_; refine A_region ?_; refine M0 (q_fldp rfl rfl rfl rfl (by decide)) rfl rfl ?_; refine M0 (q_ld1 rfl rfl rfl rfl rfl) rfl rfl ?_
    refine M0 (q_fldp rfl rfl rfl rfl (by decide)) rfl rfl ?_; refine M0 (q_ld1 rfl rfl rfl rfl rfl) rfl rfl ?_; refine M0 (q_neqK rfl rfl rfl rfl (by assumption)) rfl rfl ?_
    refine L_nil ?_; refine T_n ?_; refine A_ifF rfl ?_; refine A_skip ?_; refine T_n ?_; refine A_seq ?_; refine A_seq ?_; refine A_region ?_
    refine M0 (q_fldp rfl rfl rfl rfl (by decide)) rfl rfl ?_; refine M0 (q_ld1 rfl rfl rfl rfl rfl) rfl rfl ?_; refine M0 (q_fldp rfl rfl rfl rfl (by decide)) rfl rfl ?_
    refine M0 (q_ld1 rfl rfl rfl rfl rfl) rfl rfl ?_; refine M0 (q_neqK rfl rfl rfl rfl (by assumption)) rfl rfl ?_; refine L_nil ?_; refine T_n ?_; refine A_ifF rfl ?_; refine A_skip ?_
    refine T_n ?_; refine A_seq ?_; refine A_seq ?_; refine A_region ?_; refine M0 (q_fldp rfl rfl rfl rfl (by decide)) rfl rfl ?_; refine M0 (q_ld1 rfl rfl rfl rfl rfl) rfl rfl ?_
    refine M0 (q_fldp rfl rfl rfl rfl (by decide)) rfl rfl ?_; refine M0 (q_ld1 rfl rfl rfl rfl rfl) rfl rfl ?_; refine M0 (q_call0 rfl rfl (hc_Tracks) rfl) rfl rfl ?_
    refine M0 (q_not rfl rfl rfl) rfl rfl ?_; refine L_nil ?_; refine T_n ?_; refine A_ifF rfl ?_; refine A_skip ?_; refine T_n ?_; refine A_seq ?_; refine A_seq ?_; refine A_region ?_
    refine M0 (q_fldp rfl rfl rfl rfl (by decide)) rfl rfl ?_; refine M0 (q_ldN rfl rfl rfl rfl rfl rfl) rfl rfl ?_; refine M0 (q_fldp rfl rfl rfl rfl (by decide)) rfl rfl ?_
    refine M0 (q_ldN rfl rfl rfl rfl rfl rfl) rfl rfl ?_; refine M0 (q_call0 rfl rfl (hc) rfl) rfl rfl ?_; refine M0 (q_not rfl rfl rfl) rfl rfl ?_; refine L_nil ?_; refine T_n ?_
    refine A_ifT rfl ?_; refine A_seq ?_; refine A_region ?_; refine M0 (q_assignC rfl rfl rfl) rfl rfl ?_; refine L_nil ?_; refine T_n ?_; refine A_ret ?_; refine T_r ?_; refine F_r ?_
    exact E_tmp rfl rfl (W_end [] (by decide) rfl rfl (B_eq (decide_eq_false fun e => e_Base (by rw [e])).symm))
  have e_Base := Classical.not_not.1 e_Base
  have hc_Base := eq_World x.Base y.Base g_Base
  rw [decide_eq_true e_Base] at hc_Base
  by_cases e_Now : ¬ x.Now = y.Now
  · have hc := eq_World x.Now y.Now g_Now
    rw [decide_eq_false e_Now] at hc
    refine Con.of Try.func11 rfl Try.ntmps11 rfl (fun E => ?_)
    refine A_seq ?_; refine A_region ?_; refine M1 (q_boxN rfl rfl rfl rfl) rfl rfl ?_; refine M1 (q_boxN rfl rfl rfl rfl) rfl rfl ?_; refine M0 (q_assignC rfl rfl rfl) rfl rfl ?_
    refine L_nil ?_; refine T_n ?_; refine A_seq ?_; refine A_seq ?_; refine A_region ?_; refine M0 (q_fldp rfl rfl rfl rfl (by decide)) rfl rfl ?_
    refine M0 (q_ld1 rfl rfl rfl rfl rfl) rfl rfl ?_; refine M0 (q_fldp rfl rfl rfl rfl (by decide)) rfl rfl ?_; refine M0 (q_ld1 rfl rfl rfl rfl rfl) rfl rfl ?_
    refine M0 (q_neqK rfl rfl rfl rfl (by assumption)) rfl rfl ?_; refine L_nil ?_; refine T_n ?_; refine A_ifF rfl ?_; refine A_skip ?_; refine T_n ?_; refine A_seq ?_; refine A_seq ?_
    refine A_region ?_; refine M0 (q_fldp rfl rfl rfl rfl (by decide)) rfl rfl ?_; refine M0 (q_ld1 rfl rfl rfl rfl rfl) rfl rfl ?_; refine M0 (q_fldp rfl rfl rfl rfl (by decide)) rfl rfl ?_
    refine M0 (q_ld1 rfl rfl rfl rfl rfl) rfl rfl ?_; refine M0 (q_neqK rfl rfl rfl rfl (by assumption)) rfl rfl ?_; refine L_nil ?_; refine T_n ?_; refine A_ifF rfl ?_; refine A_skip ?_
    refine T_n ?_; refine A_seq ?_; refine A_seq ?_; refine A_region ?_; refine M0 (q_fldp rfl rfl rfl rfl (by decide)) rfl rfl ?_; refine M0 (q_ld1 rfl rfl rfl rfl rfl) rfl rfl ?_
    refine M0 (q_fldp rfl rfl rfl rfl (by decide)) rfl rfl ?_; refine M0 (q_ld1 rfl rfl rfl rfl rfl) rfl rfl ?_; refine M0 (q_neqK rfl rfl rfl rfl (by assumption)) rfl rfl ?_
    refine L_nil ?_; refine T_n ?_; refine A_ifF rfl ?_; refine A_skip ?_; refine T_n ?_; refine A_seq ?_; refine A_seq ?_; refine A_region ?_
    refine M0 (q_fldp rfl rfl rfl rfl (by decide)) rfl rfl ?_; refine M0 (q_ld1 rfl rfl rfl rfl rfl) rfl rfl ?_; refine M0 (q_fldp rfl rfl rfl rfl (by decide)) rfl rfl ?_
    refine M0 (q_ld1 rfl rfl rfl rfl rfl) rfl rfl ?_; refine M0 (q_neqK rfl rfl rfl rfl (by assumption)) rfl rfl ?_; refine L_nil ?_; refine T_n ?_; refine A_ifF rfl ?_; refine A_skip ?_
    refine T_n ?_; refine A_seq ?_; refine A_seq ?_; refine A_region ?_; refine M0 (q_fldp rfl rfl rfl rfl (by decide)) rfl rfl ?_; refine M0 (q_ld1 rfl rfl rfl rfl rfl) rfl rfl ?_
    refine M0 (q_fldp rfl rfl rfl rfl (by decide)) rfl rfl ?_; refine M0 (q_ld1 rfl rfl rfl rfl rfl) rfl rfl ?_; refine M0 (q_call0 rfl rfl (hc_Tracks) rfl) rfl rfl ?_
    refine M0 (q_not rfl rfl rfl) rfl rfl ?_; refine L_nil ?_; refine T_n ?_; refine A_ifF rfl ?_; refine A_skip ?_; refine T_n ?_; refine A_seq ?_; refine A_seq ?_; refine A_region ?_
    refine M0 (q_fldp rfl rfl rfl rfl (by decide)) rfl rfl ?_; refine M0 (q_ldN rfl rfl rfl rfl rfl rfl) rfl rfl ?_; refine M0 (q_fldp rfl rfl rfl rfl (by decide)) rfl rfl ?_
    refine M0 (q_ldN rfl rfl rfl rfl rfl rfl) rfl rfl ?_; refine M0 (q_call0 rfl rfl (hc_Base) rfl) rfl rfl ?_; refine M0 (q_not rfl rfl rfl) rfl rfl ?_; refine L_nil ?_; refine T_n ?_
    refine A_ifF rfl ?_; refine A_skip ?_; refine T_n ?_; refine A_seq ?_; refine A_seq ?_; refine A_region ?_; refine M0 (q_fldp rfl rfl rfl rfl (by decide)) rfl rfl ?_
    refine M0 (q_ldN rfl rfl rfl rfl rfl rfl) rfl rfl ?_; refine M0 (q_fldp rfl rfl rfl rfl (by decide)) rfl rfl ?_; refine M0 (q_ldN rfl rfl rfl rfl rfl rfl) rfl rfl ?_
    refine M0 (q_call0 rfl rfl (hc) rfl) rfl rfl ?_; refine M0 (q_not rfl rfl rfl) rfl rfl ?_; refine L_nil ?_; refine T_n ?_; refine A_ifT rfl ?_; refine A_seq ?_; refine A_region ?_
    refine M0 (q_assignC rfl rfl rfl) rfl rfl ?_; refine L_nil ?_; refine T_n ?_; refine A_ret ?_; refine T_r ?_; refine F_r ?_
    exact E_tmp rfl rfl (W_end [] (by decide) rfl rfl (B_eq (decide_eq_false fun e => e_Now (by rw [e])).symm))
  have e_Now := Classical.not_not.1 e_Now
  have hc_Now := eq_World x.Now y.Now g_Now
  rw [decide_eq_true e_Now] at hc_Now
  by_cases e_Used : ¬ x.Used = y.Used
  · have hc := eq_IntSS x.Used y.Used g_Used
    rw [decide_eq_false e_Used] at hc
    refine Con.of Try.func11 rfl Try.ntmps11 rfl (fun E => ?_)
    refine A_seq ?_; refine A_region ?_; refine M1 (q_boxN rfl rfl rfl rfl) rfl rfl ?_; refine M1 (q_boxN rfl rfl rfl rfl) rfl rfl ?_; refine M0 (q_assignC rfl rfl rfl) rfl rfl ?_
    refine L_nil ?_; refine T_n ?_; refine A_seq ?_; refine A_seq ?_; refine A_region ?_; refine M0 (q_fldp rfl rfl rfl rfl (by decide)) rfl rfl ?_
    refine M0 (q_ld1 rfl rfl rfl rfl rfl) rfl rfl ?_; refine M0 (q_fldp rfl rfl rfl rfl (by decide)) rfl rfl ?_; refine M0 (q_ld1 rfl rfl rfl rfl rfl) rfl rfl ?_
    refine M0 (q_neqK rfl rfl rfl rfl (by assumption)) rfl rfl ?_; refine L_nil ?_; refine T_n ?_; refine A_ifF rfl ?_; refine A_skip ?_; refine T_n ?_; refine A_seq ?_; refine A_seq ?_
    refine A_region ?_; refine M0 (q_fldp rfl rfl rfl rfl (by decide)) rfl rfl ?_; refine M0 (q_ld1 rfl rfl rfl rfl rfl) rfl rfl ?_; refine M0 (q_fldp rfl rfl rfl rfl (by decide)) rfl rfl ?_
    refine M0 (q_ld1 rfl rfl rfl rfl rfl) rfl rfl ?_; refine M0 (q_neqK rfl rfl rfl rfl (by assumption)) rfl rfl ?_; refine L_nil ?_; refine T_n ?_; refine A_ifF rfl ?_; refine A_skip ?_
    refine T_n ?_; refine A_seq ?_; refine A_seq ?_; refine A_region ?_; refine M0 (q_fldp rfl rfl rfl rfl (by decide)) rfl rfl ?_; refine M0 (q_ld1 rfl rfl rfl rfl rfl) rfl rfl ?_
    refine M0 (q_fldp rfl rfl rfl rfl (by decide)) rfl rfl ?_; refine M0 (q_ld1 rfl rfl rfl rfl rfl) rfl rfl ?_; refine M0 (q_neqK rfl rfl rfl rfl (by assumption)) rfl rfl ?_
    refine L_nil ?_; refine T_n ?_; refine A_ifF rfl ?_; refine A_skip ?_; refine T_n ?_; refine A_seq ?_; refine A_seq ?_; refine A_region ?_
    refine M0 (q_fldp rfl rfl rfl rfl (by decide)) rfl rfl ?_; refine M0 (q_ld1 rfl rfl rfl rfl rfl) rfl rfl ?_; refine M0 (q_fldp rfl rfl rfl rfl (by decide)) rfl rfl ?_
    refine M0 (q_ld1 rfl rfl rfl rfl rfl) rfl rfl ?_; refine M0 (q_neqK rfl rfl rfl rfl (by assumption)) rfl rfl ?_; refine L_nil ?_; refine T_n ?_; refine A_ifF rfl ?_; refine A_skip ?_
    refine T_n ?_; refine A_seq ?_; refine A_seq ?_; refine A_region ?_; refine M0 (q_fldp rfl rfl rfl rfl (by decide)) rfl rfl ?_; refine M0 (q_ld1 rfl rfl rfl rfl rfl) rfl rfl ?_
    refine M0 (q_fldp rfl rfl rfl rfl (by decide)) rfl rfl ?_; refine M0 (q_ld1 rfl rfl rfl rfl rfl) rfl rfl ?_; refine M0 (q_call0 rfl rfl (hc_Tracks) rfl) rfl rfl ?_
    refine M0 (q_not rfl rfl rfl) rfl rfl ?_; refine L_nil ?_; refine T_n ?_; refine A_ifF rfl ?_; refine A_skip ?_; refine T_n ?_; refine A_seq ?_; refine A_seq ?_; refine A_region ?_
    refine M0 (q_fldp rfl rfl rfl rfl (by decide)) rfl rfl ?_; refine M0 (q_ldN rfl rfl rfl rfl rfl rfl) rfl rfl ?_; refine M0 (q_fldp rfl rfl rfl rfl (by decide)) rfl rfl ?_
    refine M0 (q_ldN rfl rfl rfl rfl rfl rfl) rfl rfl ?_; refine M0 (q_call0 rfl rfl (hc_Base) rfl) rfl rfl ?_; refine M0 (q_not rfl rfl rfl) rfl rfl ?_; refine L_nil ?_; refine T_n ?_
    refine A_ifF rfl ?_; refine A_skip ?_; refine T_n ?_; refine A_seq ?_; refine A_seq ?_; refine A_region ?_; refine M0 (q_fldp rfl rfl rfl rfl (by decide)) rfl rfl ?_
    refine M0 (q_ldN rfl rfl rfl rfl rfl rfl) rfl rfl ?_; refine M0 (q_fldp rfl rfl rfl rfl (by decide)) rfl rfl ?_; refine M0 (q_ldN rfl rfl rfl rfl rfl rfl) rfl rfl ?_
    refine M0 (q_call0 rfl rfl (hc_Now) rfl) rfl rfl ?_; refine M0 (q_not rfl rfl rfl) rfl rfl ?_; refine L_nil ?_; refine T_n ?_; refine A_ifF rfl ?_; refine A_skip ?_; refine T_n ?_
    refine A_seq ?_; refine A_seq ?_; refine A_region ?_; refine M0 (q_fldp rfl rfl rfl rfl (by decide)) rfl rfl ?_; refine M0 (q_ld1 rfl rfl rfl rfl rfl) rfl rfl ?_
    refine M0 (q_fldp rfl rfl rfl rfl (by decide)) rfl rfl ?_; refine M0 (q_ld1 rfl rfl rfl rfl rfl) rfl rfl ?_; refine M0 (q_call0 rfl rfl (hc) rfl) rfl rfl ?_
    refine M0 (q_not rfl rfl rfl) rfl rfl ?_; refine L_nil ?_; refine T_n ?_; refine A_ifT rfl ?_; refine A_seq ?_; refine A_region ?_; refine M0 (q_assignC rfl rfl rfl) rfl rfl ?_; refine L_nil ?_
    refine T_n ?_; refine A_ret ?_; refine T_r ?_; refine F_r ?_
    exact E_tmp rfl rfl (W_end [] (by decide) rfl rfl (B_eq (decide_eq_false fun e => e_Used (by rw [e])).symm))
  have e_Used := Classical.not_not.1 e_Used
  have hc_Used := eq_IntSS x.Used y.Used g_Used
  rw [decide_eq_true e_Used] at hc_Used
  by_cases e_Saves : ¬ x.Saves = y.Saves
  · have hc := eq_SaveS x.Saves y.Saves g_Saves
    rw [decide_eq_false e_Saves] at hc
    refine Con.of Try.func11 rfl Try.ntmps11 rfl (fun E => ?_)
    refine A_seq ?_; refine A_region ?_; refine M1 (q_boxN rfl rfl rfl rfl) rfl rfl ?_; refine M1 (q_boxN rfl rfl rfl rfl) rfl rfl ?_; refine M0 (q_assignC rfl rfl rfl) rfl rfl ?_
    refine L_nil ?_; refine T_n ?_; refine A_seq ?_; refine A_seq ?_; refine A_region ?_; refine M0 (q_fldp rfl rfl rfl rfl (by decide)) rfl rfl ?_
    refine M0 (q_ld1 rfl rfl rfl rfl rfl) rfl rfl ?_; refine M0 (q_fldp rfl rfl rfl rfl (by decide)) rfl rfl ?_; refine M0 (q_ld1 rfl rfl rfl rfl rfl) rfl rfl ?_
    refine M0 (q_neqK rfl rfl rfl rfl (by assumption)) rfl rfl ?_; refine L_nil ?_; refine T_n ?_; refine A_ifF rfl ?_; refine A_skip ?_; refine T_n ?_; refine A_seq ?_; refine A_seq ?_
    refine A_region ?_; refine M0 (q_fldp rfl rfl rfl rfl (by decide)) rfl rfl ?_; refine M0 (q_ld1 rfl rfl rfl rfl rfl) rfl rfl ?_; refine M0 (q_fldp rfl rfl rfl rfl (by decide)) rfl rfl ?_
    refine M0 (q_ld1 rfl rfl rfl rfl rfl) rfl rfl ?_; refine M0 (q_neqK rfl rfl rfl rfl (by assumption)) rfl rfl ?_; refine L_nil ?_; refine T_n ?_; refine A_ifF rfl ?_; refine A_skip ?_
    refine T_n ?_; refine A_seq ?_; refine A_seq ?_; refine A_region ?_; refine M0 (q_fldp rfl rfl rfl rfl (by decide)) rfl rfl ?_; refine M0 (q_ld1 rfl rfl rfl rfl rfl) rfl rfl ?_
    refine M0 (q_fldp rfl rfl rfl rfl (by decide)) rfl rfl ?_; refine M0 (q_ld1 rfl rfl rfl rfl rfl) rfl rfl ?_; refine M0 (q_neqK rfl rfl rfl rfl (by assumption)) rfl rfl ?_
    refine L_nil ?_; refine T_n ?_; refine A_ifF rfl ?_; refine A_skip ?_; refine T_n ?_; refine A_seq ?_; refine A_seq ?_; refine A_region ?_
    refine M0 (q_fldp rfl rfl rfl rfl (by decide)) rfl rfl ?_; refine M0 (q_ld1 rfl rfl rfl rfl rfl) rfl rfl ?_; refine M0 (q_fldp rfl rfl rfl rfl (by decide)) rfl rfl ?_
    refine M0 (q_ld1 rfl rfl rfl rfl rfl) rfl rfl ?_; refine M0 (q_neqK rfl rfl rfl rfl (by assumption)) rfl rfl ?_; refine L_nil ?_; refine T_n ?_; refine A_ifF rfl ?_; refine A_skip ?_
    refine T_n ?_; refine A_seq ?_; refine A_seq ?_; refine A_region ?_; refine M0 (q_fldp rfl rfl rfl rfl (by decide)) rfl rfl ?_; refine M0 (q_ld1 rfl rfl rfl rfl rfl) rfl rfl ?_
    refine M0 (q_fldp rfl rfl rfl rfl (by decide)) rfl rfl ?_; refine M0 (q_ld1 rfl rfl rfl rfl rfl) rfl rfl ?_; refine M0 (q_call0 rfl rfl (hc_Tracks) rfl) rfl rfl ?_
    refine M0 (q_not rfl rfl rfl) rfl rfl ?_; refine L_nil ?_; refine T_n ?_; refine A_ifF rfl ?_; refine A_skip ?_; refine T_n ?_; refine A_seq ?_; refine A_seq ?_; refine A_region ?_
    refine M0 (q_fldp rfl rfl rfl rfl (by decide)) rfl rfl ?_; refine M0 (q_ldN rfl rfl rfl rfl rfl rfl) rfl rfl ?_; refine M0 (q_fldp rfl rfl rfl rfl (by decide)) rfl rfl ?_
    refine M0 (q_ldN rfl rfl rfl rfl rfl rfl) rfl rfl ?_; refine M0 (q_call0 rfl rfl (hc_Base) rfl) rfl rfl ?_; refine M0 (q_not rfl rfl rfl) rfl rfl ?_; refine L_nil ?_; refine T_n ?_
    refine A_ifF rfl ?_; refine A_skip ?_; refine T_n ?_; refine A_seq ?_; refine A_seq ?_; refine A_region ?_; refine M0 (q_fldp rfl rfl rfl rfl (by decide)) rfl rfl ?_
    refine M0 (q_ldN rfl rfl rfl rfl rfl rfl) rfl rfl ?_; refine M0 (q_fldp rfl rfl rfl rfl (by decide)) rfl rfl ?_; refine M0 (q_ldN rfl rfl rfl rfl rfl rfl) rfl rfl ?_
    refine M0 (q_call0 rfl rfl (hc_Now) rfl) rfl rfl ?_; refine M0 (q_not rfl rfl rfl) rfl rfl ?_; refine L_nil ?_; refine T_n ?_; refine A_ifF rfl ?_; refine A_skip ?_; refine T_n ?_
    refine A_seq ?_; refine A_seq ?_; refine A_region ?_; refine M0 (q_fldp rfl rfl rfl rfl (by decide)) rfl rfl ?_; refine M0 (q_ld1 rfl rfl rfl rfl rfl) rfl rfl ?_
    refine M0 (q_fldp rfl rfl rfl rfl (by decide)) rfl rfl ?_; refine M0 (q_ld1 rfl rfl rfl rfl rfl) rfl rfl ?_; refine M0 (q_call0 rfl rfl (hc_Used) rfl) rfl rfl ?_
    refine M0 (q_not rfl rfl rfl) rfl rfl ?_; refine L_nil ?_; refine T_n ?_; refine A_ifF rfl ?_; refine A_skip ?_; refine T_n ?_; refine A_seq ?_; refine A_seq ?_; refine A_region ?_
    refine M0 (q_fldp rfl rfl rfl rfl (by decide)) rfl rfl ?_; refine M0 (q_ld1 rfl rfl rfl rfl rfl) rfl rfl ?_; refine M0 (q_fldp rfl rfl rfl rfl (by decide)) rfl rfl ?_
    refine M0 (q_ld1 rfl rfl rfl rfl rfl) rfl rfl ?_; refine M0 (q_call0 rfl rfl (hc) rfl) rfl rfl ?_; refine M0 (q_not rfl rfl rfl) rfl rfl ?_; refine L_nil ?_; refine T_n ?_
    refine A_ifT rfl ?_; refine A_seq ?_; refine A_region ?_; refine M0 (q_assignC rfl rfl rfl) rfl rfl ?_; refine L_nil ?_; refine T_n ?_; refine A_ret ?_; refine T_r ?_; refine F_r ?_
    exact E_tmp rfl rfl (W_end [] (by decide) rfl rfl (B_eq (decide_eq_false fun e => e_Saves (by rw [e])).symm))
  have e_Saves := Classical.not_not.1 e_Saves
  have hc_Saves := eq_SaveS x.Saves y.Saves g_Saves
  rw [decide_eq_true e_Saves] at hc_Saves
  by_cases e_Sums : ¬ x.Sums = y.Sums
  · have hc := eq_IntS x.Sums y.Sums g_Sums
    rw [decide_eq_false e_Sums] at hc
    refine Con.of Try.func11 rfl Try.ntmps11 rfl (fun E => ?_)
    refine A_seq ?_; refine A_region ?_; refine M1 (q_boxN rfl rfl rfl rfl) rfl rfl ?_; refine M1 (q_boxN rfl rfl rfl rfl) rfl rfl ?_; refine M0 (q_assignC rfl rfl rfl) rfl rfl ?_
    refine L_nil ?_; refine T_n ?_; refine A_seq ?_; refine A_seq ?_; refine A_region ?_; refine M0 (q_fldp rfl rfl rfl rfl (by decide)) rfl rfl ?_
    refine M0 (q_ld1 rfl rfl rfl rfl rfl) rfl rfl ?_; refine M0 (q_fldp rfl rfl rfl rfl (by decide)) rfl rfl ?_; refine M0 (q_ld1 rfl rfl rfl rfl rfl) rfl rfl ?_
    refine M0 (q_neqK rfl rfl rfl rfl (by assumption)) rfl rfl ?_; refine L_nil ?_; refine T_n ?_; refine A_ifF rfl ?_; refine A_skip ?_; refine T_n ?_; refine A_seq ?_; refine A_seq ?_
    refine A_region ?_; refine M0 (q_fldp rfl rfl rfl rfl (by decide)) rfl rfl ?_; refine M0 (q_ld1 rfl rfl rfl rfl rfl) rfl rfl ?_; refine M0 (q_fldp rfl rfl rfl rfl (by decide)) rfl rfl ?_
    refine M0 (q_ld1 rfl rfl rfl rfl rfl) rfl rfl ?_; refine M0 (q_neqK rfl rfl rfl rfl (by assumption)) rfl rfl ?_; refine L_nil ?_; refine T_n ?_; refine A_ifF rfl ?_; refine A_skip ?_
    refine T_n ?_; refine A_seq ?_; refine A_seq ?_; refine A_region ?_; refine M0 (q_fldp rfl rfl rfl rfl (by decide)) rfl rfl ?_; refine M0 (q_ld1 rfl rfl rfl rfl rfl) rfl rfl ?_
    refine M0 (q_fldp rfl rfl rfl rfl (by decide)) rfl rfl ?_; refine M0 (q_ld1 rfl rfl rfl rfl rfl) rfl rfl ?_; refine M0 (q_neqK rfl rfl rfl rfl (by assumption)) rfl rfl ?_
    refine L_nil ?_; refine T_n ?_; refine A_ifF rfl ?_; refine A_skip ?_; refine T_n ?_; refine A_seq ?_; refine A_seq ?_; refine A_region ?_
    refine M0 (q_fldp rfl rfl rfl rfl (by decide)) rfl rfl ?_; refine M0 (q_ld1 rfl rfl rfl rfl rfl) rfl rfl ?_; refine M0 (q_fldp rfl rfl rfl rfl (by decide)) rfl rfl ?_
    refine M0 (q_ld1 rfl rfl rfl rfl rfl) rfl rfl ?_; refine M0 (q_neqK rfl rfl rfl rfl (by assumption)) rfl rfl ?_; refine L_nil ?_; refine T_n ?_; refine A_ifF rfl ?_; refine A_skip ?_
    refine T_n ?_; refine A_seq ?_; refine A_seq ?_; refine A_region ?_; refine M0 (q_fldp rfl rfl rfl rfl (by decide)) rfl rfl ?_; refine M0 (q_ld1 rfl rfl rfl rfl rfl) rfl rfl ?_
    refine M0 (q_fldp rfl rfl rfl rfl (by decide)) rfl rfl ?_; refine M0 (q_ld1 rfl rfl rfl rfl rfl) rfl rfl ?_; refine M0 (q_call0 rfl rfl (hc_Tracks) rfl) rfl rfl ?_
    refine M0 (q_not rfl rfl rfl) rfl rfl ?_; refine L_nil ?_; refine T_n ?_; refine A_ifF rfl ?_; refine A_skip ?_; refine T_n ?_; refine A_seq ?_; refine A_seq ?_; refine A_region ?_
    refine M0 (q_fldp rfl rfl rfl rfl (by decide)) rfl rfl ?_; refine M0 (q_ldN rfl rfl rfl rfl rfl rfl) rfl rfl ?_; refine M0 (q_fldp rfl rfl rfl rfl (by decide)) rfl rfl ?_
    refine M0 (q_ldN rfl rfl rfl rfl rfl rfl) rfl rfl ?_; refine M0 (q_call0 rfl rfl (hc_Base) rfl) rfl rfl ?_; refine M0 (q_not rfl rfl rfl) rfl rfl ?_; refine L_nil ?_; refine T_n ?_
    refine A_ifF rfl ?_; refine A_skip ?_; refine T_n ?_; refine A_seq ?_; refine A_seq ?_; refine A_region ?_; refine M0 (q_fldp rfl rfl rfl rfl (by decide)) rfl rfl ?_
    refine M0 (q_ldN rfl rfl rfl rfl rfl rfl) rfl rfl ?_; refine M0 (q_fldp rfl rfl rfl rfl (by decide)) rfl rfl ?_; refine M0 (q_ldN rfl rfl rfl rfl rfl rfl) rfl rfl ?_
    refine M0 (q_call0 rfl rfl (hc_Now) rfl) rfl rfl ?_; refine M0 (q_not rfl rfl rfl) rfl rfl ?_; refine L_nil ?_; refine T_n ?_; refine A_ifF rfl ?_; refine A_skip ?_; refine T_n ?_
    refine A_seq ?_; refine A_seq ?_; refine A_region ?_; refine M0 (q_fldp rfl rfl rfl rfl (by decide)) rfl rfl ?_; refine M0 (q_ld1 rfl rfl rfl rfl rfl) rfl rfl ?_
    refine M0 (q_fldp rfl rfl rfl rfl (by decide)) rfl rfl ?_; refine M0 (q_ld1 rfl rfl rfl rfl rfl) rfl rfl ?_; refine M0 (q_call0 rfl rfl (hc_Used) rfl) rfl rfl ?_
    refine M0 (q_not rfl rfl rfl) rfl rfl ?_; refine L_nil ?_; refine T_n ?_; refine A_ifF rfl ?_; refine A_skip ?_; refine T_n ?_; refine A_seq ?_; refine A_seq ?_; refine A_region ?_
    refine M0 (q_fldp rfl rfl rfl rfl (by decide)) rfl rfl ?_; refine M0 (q_ld1 rfl rfl rfl rfl rfl) rfl rfl ?_; refine M0 (q_fldp rfl rfl rfl rfl (by decide)) rfl rfl ?_
    refine M0 (q_ld1 rfl rfl rfl rfl rfl) rfl rfl ?_; refine M0 (q_call0 rfl rfl (hc_Saves) rfl) rfl rfl ?_; refine M0 (q_not rfl rfl rfl) rfl rfl ?_; refine L_nil ?_; refine T_n ?_
    refine A_ifF rfl ?_; refine A_skip ?_; refine T_n ?_; refine A_seq ?_; refine A_seq ?_; refine A_region ?_; refine M0 (q_fldp rfl rfl rfl rfl (by decide)) rfl rfl ?_
    refine M0 (q_ld1 rfl rfl rfl rfl rfl) rfl rfl ?_; refine M0 (q_fldp rfl rfl rfl rfl (by decide)) rfl rfl ?_; refine M0 (q_ld1 rfl rfl rfl rfl rfl) rfl rfl ?_
    refine M0 (q_call0 rfl rfl (hc) rfl) rfl rfl ?_; refine M0 (q_not rfl rfl rfl) rfl rfl ?_; refine L_nil ?_; refine T_n ?_; refine A_ifT rfl ?_; refine A_seq ?_; refine A_region ?_
    refine M0 (q_assignC rfl rfl rfl) rfl rfl ?_; refine L_nil ?_; refine T_n ?_; refine A_ret ?_; refine T_r ?_; refine F_r ?_
    exact E_tmp rfl rfl (W_end [] (by decide) rfl rfl (B_eq (decide_eq_false fun e => e_Sums (by rw [e])).symm))
  have e_Sums := Classical.not_not.1 e_Sums
  have hc_Sums := eq_IntS x.Sums y.Sums g_Sums
  rw [decide_eq_true e_Sums] at hc_Sums
  by_cases e_Fault : ¬ x.Fault = y.Fault
  · have hc := eq_Fault x.Fault y.Fault g_Fault
    rw [decide_eq_false e_Fault] at hc
    refine Con.of Try.func11 rfl Try.ntmps11 rfl (fun E => ?_)
    refine A_seq ?_; refine A_region ?_; refine M1 (q_boxN rfl rfl rfl rfl) rfl rfl ?_; refine M1 (q_boxN rfl rfl rfl rfl) rfl rfl ?_; refine M0 (q_assignC rfl rfl rfl) rfl rfl ?_
    refine L_nil ?_; refine T_n ?_; refine A_seq ?_; refine A_seq ?_; refine A_region ?_; refine M0 (q_fldp rfl rfl rfl rfl (by decide)) rfl rfl ?_
    refine M0 (q_ld1 rfl rfl rfl rfl rfl) rfl rfl ?_; refine M0 (q_fldp rfl rfl rfl rfl (by decide)) rfl rfl ?_; refine M0 (q_ld1 rfl rfl rfl rfl rfl) rfl rfl ?_
    refine M0 (q_neqK rfl rfl rfl rfl (by assumption)) rfl rfl ?_; refine L_nil ?_; refine T_n ?_; refine A_ifF rfl ?_; refine A_skip ?_; refine T_n ?_; refine A_seq ?_; refine A_seq ?_
    refine A_region ?_; refine M0 (q_fldp rfl rfl rfl rfl (by decide)) rfl rfl ?_; refine M0 (q_ld1 rfl rfl rfl rfl rfl) rfl rfl ?_; refine M0 (q_fldp rfl rfl rfl rfl (by decide)) rfl rfl ?_
    refine M0 (q_ld1 rfl rfl rfl rfl rfl) rfl rfl ?_; refine M0 (q_neqK rfl rfl rfl rfl (by assumption)) rfl rfl ?_; refine L_nil ?_; refine T_n ?_; refine A_ifF rfl ?_; refine A_skip ?_
    refine T_n ?_; refine A_seq ?_; refine A_seq ?_; refine A_region ?_; refine M0 (q_fldp rfl rfl rfl rfl (by decide)) rfl rfl ?_; refine M0 (q_ld1 rfl rfl rfl rfl rfl) rfl rfl ?_
    refine M0 (q_fldp rfl rfl rfl rfl (by decide)) rfl rfl ?_; refine M0 (q_ld1 rfl rfl rfl rfl rfl) rfl rfl ?_; refine M0 (q_neqK rfl rfl rfl rfl (by assumption)) rfl rfl ?_
    refine L_nil ?_; refine T_n ?_; refine A_ifF rfl ?_; refine A_skip ?_; refine T_n ?_; refine A_seq ?_; refine A_seq ?_; refine A_region ?_
    refine M0 (q_fldp rfl rfl rfl rfl (by decide)) rfl rfl ?_; refine M0 (q_ld1 rfl rfl rfl rfl rfl) rfl rfl ?_; refine M0 (q_fldp rfl rfl rfl rfl (by decide)) rfl rfl ?_
    refine M0 (q_ld1 rfl rfl rfl rfl rfl) rfl rfl ?_; refine M0 (q_neqK rfl rfl rfl rfl (by assumption)) rfl rfl ?_; refine L_nil ?_; refine T_n ?_; refine A_ifF rfl ?_; refine A_skip ?_
    refine T_n ?_; refine A_seq ?_; refine A_seq ?_; refine A_region ?_; refine M0 (q_fldp rfl rfl rfl rfl (by decide)) rfl rfl ?_; refine M0 (q_ld1 rfl rfl rfl rfl rfl) rfl rfl ?_
    refine M0 (q_fldp rfl rfl rfl rfl (by decide)) rfl rfl ?_; refine M0 (q_ld1 rfl rfl rfl rfl rfl) rfl rfl ?_; refine M0 (q_call0 rfl rfl (hc_Tracks) rfl) rfl rfl ?_
    refine M0 (q_not rfl rfl rfl) rfl rfl ?_; refine L_nil ?_; refine T_n ?_; refine A_ifF rfl ?_; refine A_skip ?_; refine T_n ?_; refine A_seq ?_; refine A_seq ?_; refine A_region ?_
    refine M0 (q_fldp rfl rfl rfl rfl (by decide)) rfl rfl ?_; refine M0 (q_ldN rfl rfl rfl rfl rfl rfl) rfl rfl ?_; refine M0 (q_fldp rfl rfl rfl rfl (by decide)) rfl rfl ?_
    refine M0 (q_ldN rfl rfl rfl rfl rfl rfl) rfl rfl ?_; refine M0 (q_call0 rfl rfl (hc_Base) rfl) rfl rfl ?_; refine M0 (q_not rfl rfl rfl) rfl rfl ?_; refine L_nil ?_; refine T_n ?_
    refine A_ifF rfl ?_; refine A_skip ?_; refine T_n ?_; refine A_seq ?_; refine A_seq ?_; refine A_region ?_; refine M0 (q_fldp rfl rfl rfl rfl (by decide)) rfl rfl ?_
    refine M0 (q_ldN rfl rfl rfl rfl rfl rfl) rfl rfl ?_; refine M0 (q_fldp rfl rfl rfl rfl (by decide)) rfl rfl ?_; refine M0 (q_ldN rfl rfl rfl rfl rfl rfl) rfl rfl ?_
    refine M0 (q_call0 rfl rfl (hc_Now) rfl) rfl rfl ?_; refine M0 (q_not rfl rfl rfl) rfl rfl ?_; refine L_nil ?_; refine T_n ?_; refine A_ifF rfl ?_; refine A_skip ?_; refine T_n ?_
    refine A_seq ?_; refine A_seq ?_; refine A_region ?_; refine M0 (q_fldp rfl rfl rfl rfl (by decide)) rfl rfl ?_; refine M0 (q_ld1 rfl rfl rfl rfl rfl) rfl rfl ?_
    refine M0 (q_fldp rfl rfl rfl rfl (by decide)) rfl rfl ?_; refine M0 (q_ld1 rfl rfl rfl rfl rfl) rfl rfl ?_; refine M0 (q_call0 rfl rfl (hc_Used) rfl) rfl rfl ?_
    refine M0 (q_not rfl rfl rfl) rfl rfl ?_; refine L_nil ?_; refine T_n ?_; refine A_ifF rfl ?_; refine A_skip ?_; refine T_n ?_; refine A_seq ?_; refine A_seq ?_; refine A_region ?_
    refine M0 (q_fldp rfl rfl rfl rfl (by decide)) rfl rfl ?_; refine M0 (q_ld1 rfl rfl rfl rfl rfl) rfl rfl ?_; refine M0 (q_fldp rfl rfl rfl rfl (by decide)) rfl rfl ?_
    refine M0 (q_ld1 rfl rfl rfl rfl rfl) rfl rfl ?_; refine M0 (q_call0 rfl rfl (hc_Saves) rfl) rfl rfl ?_; refine M0 (q_not rfl rfl rfl) rfl rfl ?_; refine L_nil ?_; refine T_n ?_
    refine A_ifF rfl ?_; refine A_skip ?_; refine T_n ?_; refine A_seq ?_; refine A_seq ?_; refine A_region ?_; refine M0 (q_fldp rfl rfl rfl rfl (by decide)) rfl rfl ?_
    refine M0 (q_ld1 rfl rfl rfl rfl rfl) rfl rfl ?_; refine M0 (q_fldp rfl rfl rfl rfl (by decide)) rfl rfl ?_; refine M0 (q_ld1 rfl rfl rfl rfl rfl) rfl rfl ?_
    refine M0 (q_call0 rfl rfl (hc_Sums) rfl) rfl rfl ?_; refine M0 (q_not rfl rfl rfl) rfl rfl ?_; refine L_nil ?_; refine T_n ?_; refine A_ifF rfl ?_; refine A_skip ?_; refine T_n ?_
    refine A_seq ?_; refine A_seq ?_; refine A_region ?_; refine M0 (q_fldp rfl rfl rfl rfl (by decide)) rfl rfl ?_; refine M0 (q_ldN rfl rfl rfl rfl rfl rfl) rfl rfl ?_
    refine M0 (q_fldp rfl rfl rfl rfl (by decide)) rfl rfl ?_; refine M0 (q_ldN rfl rfl rfl rfl rfl rfl) rfl rfl ?_; refine M0 (q_call0 rfl rfl (hc) rfl) rfl rfl ?_
    refine M0 (q_not rfl rfl rfl) rfl rfl ?_; refine L_nil ?_; refine T_n ?_; refine A_ifT rfl ?_; refine A_seq ?_; refine A_region ?_; refine M0 (q_assignC rfl rfl rfl) rfl rfl ?_; refine L_nil ?_
    refine T_n ?_; refine A_ret ?_; refine T_r ?_; refine F_r ?_
    exact E_tmp rfl rfl (W_end [] (by decide) rfl rfl (B_eq (decide_eq_false fun e => e_Fault (by rw [e])).symm))
  have e_Fault := Classical.not_not.1 e_Fault
  have hc_Fault := eq_Fault x.Fault y.Fault g_Fault
  rw [decide_eq_true e_Fault] at hc_Fault
  by_cases e_Rolls : ¬ x.Rolls = y.Rolls
  · have hk : decide (x.Rolls ≠ y.Rolls) = true := by simp [e_Rolls]
    refine Con.of Try.func11 rfl Try.ntmps11 rfl (fun E => ?_)
    refine A_seq ?_; refine A_region ?_; refine M1 (q_boxN rfl rfl rfl rfl) rfl rfl ?_; refine M1 (q_boxN rfl rfl rfl rfl) rfl rfl ?_; refine M0 (q_assignC rfl rfl rfl) rfl rfl ?_
    refine L_nil ?_; refine T_n ?_; refine A_seq ?_; refine A_seq ?_; refine A_region ?_; refine M0 (q_fldp rfl rfl rfl rfl (by decide)) rfl rfl ?_
    refine M0 (q_ld1 rfl rfl rfl rfl rfl) rfl rfl ?_; refine M0 (q_fldp rfl rfl rfl rfl (by decide)) rfl rfl ?_; refine M0 (q_ld1 rfl rfl rfl rfl rfl) rfl rfl ?_
    refine M0 (q_neqK rfl rfl rfl rfl (by assumption)) rfl rfl ?_; refine L_nil ?_; refine T_n ?_; refine A_ifF rfl ?_; refine A_skip ?_; refine T_n ?_; refine A_seq ?_; refine A_seq ?_
    refine A_region ?_; refine M0 (q_fldp rfl rfl rfl rfl (by decide)) rfl rfl ?_; refine M0 (q_ld1 rfl rfl rfl rfl rfl) rfl rfl ?_; refine M0 (q_fldp rfl rfl rfl rfl (by decide)) rfl rfl ?_
    refine M0 (q_ld1 rfl rfl rfl rfl rfl) rfl rfl ?_; refine M0 (q_neqK rfl rfl rfl rfl (by assumption)) rfl rfl ?_; refine L_nil ?_; refine T_n ?_; refine A_ifF rfl ?_; refine A_skip ?_
    refine T_n ?_; refine A_seq ?_; refine A_seq ?_; refine A_region ?_; refine M0 (q_fldp rfl rfl rfl rfl (by decide)) rfl rfl ?_; refine M0 (q_ld1 rfl rfl rfl rfl rfl) rfl rfl ?_
    refine M0 (q_fldp rfl rfl rfl rfl (by decide)) rfl rfl ?_; refine M0 (q_ld1 rfl rfl rfl rfl rfl) rfl rfl ?_; refine M0 (q_neqK rfl rfl rfl rfl (by assumption)) rfl rfl ?_
    refine L_nil ?_; refine T_n ?_; refine A_ifF rfl ?_; refine A_skip ?_; refine T_n ?_; refine A_seq ?_; refine A_seq ?_; refine A_region ?_
    refine M0 (q_fldp rfl rfl rfl rfl (by decide)) rfl rfl ?_; refine M0 (q_ld1 rfl rfl rfl rfl rfl) rfl rfl ?_; refine M0 (q_fldp rfl rfl rfl rfl (by decide)) rfl rfl ?_
    refine M0 (q_ld1 rfl rfl rfl rfl rfl) rfl rfl ?_; refine M0 (q_neqK rfl rfl rfl rfl (by assumption)) rfl rfl ?_; refine L_nil ?_; refine T_n ?_; refine A_ifF rfl ?_; refine A_skip ?_
    refine T_n ?_; refine A_seq ?_; refine A_seq ?_; refine A_region ?_; refine M0 (q_fldp rfl rfl rfl rfl (by decide)) rfl rfl ?_; refine M0 (q_ld1 rfl rfl rfl rfl rfl) rfl rfl ?_
    refine M0 (q_fldp rfl rfl rfl rfl (by decide)) rfl rfl ?_; refine M0 (q_ld1 rfl rfl rfl rfl rfl) rfl rfl ?_; refine M0 (q_call0 rfl rfl (hc_Tracks) rfl) rfl rfl ?_
    refine M0 (q_not rfl rfl rfl) rfl rfl ?_; refine L_nil ?_; refine T_n ?_; refine A_ifF rfl ?_; refine A_skip ?_; refine T_n ?_; refine A_seq ?_; refine A_seq ?_; refine A_region ?_
    refine M0 (q_fldp rfl rfl rfl rfl (by decide)) rfl rfl ?_; refine M0 (q_ldN rfl rfl rfl rfl rfl rfl) rfl rfl ?_; refine M0 (q_fldp rfl rfl rfl rfl (by decide)) rfl rfl ?_
    refine M0 (q_ldN rfl rfl rfl rfl rfl rfl) rfl rfl ?_; refine M0 (q_call0 rfl rfl (hc_Base) rfl) rfl rfl ?_; refine M0 (q_not rfl rfl rfl) rfl rfl ?_; refine L_nil ?_; refine T_n ?_
    refine A_ifF rfl ?_; refine A_skip ?_; refine T_n ?_; refine A_seq ?_; refine A_seq ?_; refine A_region ?_; refine M0 (q_fldp rfl rfl rfl rfl (by decide)) rfl rfl ?_
    refine M0 (q_ldN rfl rfl rfl rfl rfl rfl) rfl rfl ?_; refine M0 (q_fldp rfl rfl rfl rfl (by decide)) rfl rfl ?_; refine M0 (q_ldN rfl rfl rfl rfl rfl rfl) rfl rfl ?_
    refine M0 (q_call0 rfl rfl (hc_Now) rfl) rfl rfl ?_; refine M0 (q_not rfl rfl rfl) rfl rfl ?_; refine L_nil ?_; refine T_n ?_; refine A_ifF rfl ?_; refine A_skip ?_; refine T_n ?_
    refine A_seq ?_; refine A_seq ?_; refine A_region ?_; refine M0 (q_fldp rfl rfl rfl rfl (by decide)) rfl rfl ?_; refine M0 (q_ld1 rfl rfl rfl rfl rfl) rfl rfl ?_
    refine M0 (q_fldp rfl rfl rfl rfl (by decide)) rfl rfl ?_; refine M0 (q_ld1 rfl rfl rfl rfl rfl) rfl rfl ?_; refine M0 (q_call0 rfl rfl (hc_Used) rfl) rfl rfl ?_
    refine M0 (q_not rfl rfl rfl) rfl rfl ?_; refine L_nil ?_; refine T_n ?_; refine A_ifF rfl ?_; refine A_skip ?_; refine T_n ?_; refine A_seq ?_; refine A_seq ?_; refine A_region ?_
    refine M0 (q_fldp rfl rfl rfl rfl (by decide)) rfl rfl ?_; refine M0 (q_ld1 rfl rfl rfl rfl rfl) rfl rfl ?_; refine M0 (q_fldp rfl rfl rfl rfl (by decide)) rfl rfl ?_
    refine M0 (q_ld1 rfl rfl rfl rfl rfl) rfl rfl ?_; refine M0 (q_call0 rfl rfl (hc_Saves) rfl) rfl rfl ?_; refine M0 (q_not rfl rfl rfl) rfl rfl ?_; refine L_nil ?_; refine T_n ?_
    refine A_ifF rfl ?_; refine A_skip ?_; refine T_n ?_; refine A_seq ?_; refine A_seq ?_; refine A_region ?_; refine M0 (q_fldp rfl rfl rfl rfl (by decide)) rfl rfl ?_
    refine M0 (q_ld1 rfl rfl rfl rfl rfl) rfl rfl ?_; refine M0 (q_fldp rfl rfl rfl rfl (by decide)) rfl rfl ?_; refine M0 (q_ld1 rfl rfl rfl rfl rfl) rfl rfl ?_
    refine M0 (q_call0 rfl rfl (hc_Sums) rfl) rfl rfl ?_; refine M0 (q_not rfl rfl rfl) rfl rfl ?_; refine L_nil ?_; refine T_n ?_; refine A_ifF rfl ?_; refine A_skip ?_; refine T_n ?_
    refine A_seq ?_; refine A_seq ?_; refine A_region ?_; refine M0 (q_fldp rfl rfl rfl rfl (by decide)) rfl rfl ?_; refine M0 (q_ldN rfl rfl rfl rfl rfl rfl) rfl rfl ?_
    refine M0 (q_fldp rfl rfl rfl rfl (by decide)) rfl rfl ?_; refine M0 (q_ldN rfl rfl rfl rfl rfl rfl) rfl rfl ?_; refine M0 (q_call0 rfl rfl (hc_Fault) rfl) rfl rfl ?_
    refine M0 (q_not rfl rfl rfl) rfl rfl ?_; refine L_nil ?_; refine T_n ?_; refine A_ifF rfl ?_; refine A_skip ?_; refine T_n ?_; refine A_seq ?_; refine A_seq ?_; refine A_region ?_
    refine M0 (q_fldp rfl rfl rfl rfl (by decide)) rfl rfl ?_; refine M0 (q_ld1 rfl rfl rfl rfl rfl) rfl rfl ?_; refine M0 (q_fldp rfl rfl rfl rfl (by decide)) rfl rfl ?_
    refine M0 (q_ld1 rfl rfl rfl rfl rfl) rfl rfl ?_; refine M0 (q_neqK rfl rfl rfl rfl (by assumption)) rfl rfl ?_; refine L_nil ?_; refine T_n ?_; refine A_ifT rfl ?_; refine A_seq ?_
    refine A_region ?_; refine M0 (q_assignC rfl rfl rfl) rfl rfl ?_; refine L_nil ?_; refine T_n ?_; refine A_ret ?_; refine T_r ?_; refine F_r ?_
    exact E_tmp rfl rfl (W_end [] (by decide) rfl rfl (B_eq (decide_eq_false fun e => e_Rolls (by rw [e])).symm))
  have e_Rolls := Classical.not_not.1 e_Rolls
  have k_Rolls : decide (x.Rolls ≠ y.Rolls) = false := by simp [e_Rolls]
  by_cases e_Again : ¬ x.Again = y.Again
  · have hk : decide (x.Again ≠ y.Again) = true := by simp [e_Again]
    refine Con.of Try.func11 rfl Try.ntmps11 rfl (fun E => ?_)
    refine A_seq ?_; refine A_region ?_; refine M1 (q_boxN rfl rfl rfl rfl) rfl rfl ?_; refine M1 (q_boxN rfl rfl rfl rfl) rfl rfl ?_; refine M0 (q_assignC rfl rfl rfl) rfl rfl ?_
    refine L_nil ?_; refine T_n ?_; refine A_seq ?_; refine A_seq ?_; refine A_region ?_; refine M0 (q_fldp rfl rfl rfl rfl (by decide)) rfl rfl ?_
    refine M0 (q_ld1 rfl rfl rfl rfl rfl) rfl rfl ?_; refine M0 (q_fldp rfl rfl rfl rfl (by decide)) rfl rfl ?_; refine M0 (q_ld1 rfl rfl rfl rfl rfl) rfl rfl ?_
    refine M0 (q_neqK rfl rfl rfl rfl (by assumption)) rfl rfl ?_; refine L_nil ?_; refine T_n ?_; refine A_ifF rfl ?_; refine A_skip ?_; refine T_n ?_; refine A_seq ?_; refine A_seq ?_
    refine A_region ?_; refine M0 (q_fldp rfl rfl rfl rfl (by decide)) rfl rfl ?_; refine M0 (q_ld1 rfl rfl rfl rfl rfl) rfl rfl ?_; refine M0 (q_fldp rfl rfl rfl rfl (by decide)) rfl rfl ?_
    refine M0 (q_ld1 rfl rfl rfl rfl rfl) rfl rfl ?_; refine M0 (q_neqK rfl rfl rfl rfl (by assumption)) rfl rfl ?_; refine L_nil ?_; refine T_n ?_; refine A_ifF rfl ?_; refine A_skip ?_
    refine T_n ?_; refine A_seq ?_; refine A_seq ?_; refine A_region ?_; refine M0 (q_fldp rfl rfl rfl rfl (by decide)) rfl rfl ?_; refine M0 (q_ld1 rfl rfl rfl rfl rfl) rfl rfl ?_
    refine M0 (q_fldp rfl rfl rfl rfl (by decide)) rfl rfl ?_; refine M0 (q_ld1 rfl rfl rfl rfl rfl) rfl rfl ?_; refine M0 (q_neqK rfl rfl rfl rfl (by assumption)) rfl rfl ?_
    refine L_nil ?_; refine T_n ?_; refine A_ifF rfl ?_; refine A_skip ?_; refine T_n ?_; refine A_seq ?_; refine A_seq ?_; refine A_region ?_
    refine M0 (q_fldp rfl rfl rfl rfl (by decide)) rfl rfl ?_; refine M0 (q_ld1 rfl rfl rfl rfl rfl) rfl rfl ?_; refine M0 (q_fldp rfl rfl rfl rfl (by decide)) rfl rfl ?_
    refine M0 (q_ld1 rfl rfl rfl rfl rfl) rfl rfl ?_; refine M0 (q_neqK rfl rfl rfl rfl (by assumption)) rfl rfl ?_; refine L_nil ?_; refine T_n ?_; refine A_ifF rfl ?_; refine A_skip ?_
    refine T_n ?_; refine A_seq ?_; refine A_seq ?_; refine A_region ?_; refine M0 (q_fldp rfl rfl rfl rfl (by decide)) rfl rfl ?_; refine M0 (q_ld1 rfl rfl rfl rfl rfl) rfl rfl ?_
    refine M0 (q_fldp rfl rfl rfl rfl (by decide)) rfl rfl ?_; refine M0 (q_ld1 rfl rfl rfl rfl rfl) rfl rfl ?_; refine M0 (q_call0 rfl rfl (hc_Tracks) rfl) rfl rfl ?_
    refine M0 (q_not rfl rfl rfl) rfl rfl ?_; refine L_nil ?_; refine T_n ?_; refine A_ifF rfl ?_; refine A_skip ?_; refine T_n ?_; refine A_seq ?_; refine A_seq ?_; refine A_region ?_
    refine M0 (q_fldp rfl rfl rfl rfl (by decide)) rfl rfl ?_; refine M0 (q_ldN rfl rfl rfl rfl rfl rfl) rfl rfl ?_; refine M0 (q_fldp rfl rfl rfl rfl (by decide)) rfl rfl ?_
    refine M0 (q_ldN rfl rfl rfl rfl rfl rfl) rfl rfl ?_; refine M0 (q_call0 rfl rfl (hc_Base) rfl) rfl rfl ?_; refine M0 (q_not rfl rfl rfl) rfl rfl ?_; refine L_nil ?_; refine T_n ?_
    refine A_ifF rfl ?_; refine A_skip ?_; refine T_n ?_; refine A_seq ?_; refine A_seq ?_; refine A_region ?_; refine M0 (q_fldp rfl rfl rfl rfl (by decide)) rfl rfl ?_
    refine M0 (q_ldN rfl rfl rfl rfl rfl rfl) rfl rfl ?_; refine M0 (q_fldp rfl rfl rfl rfl (by decide)) rfl rfl ?_; refine M0 (q_ldN rfl rfl rfl rfl rfl rfl) rfl rfl ?_
    refine M0 (q_call0 rfl rfl (hc_Now) rfl) rfl rfl ?_; refine M0 (q_not rfl rfl rfl) rfl rfl ?_; refine L_nil ?_; refine T_n ?_; refine A_ifF rfl ?_; refine A_skip ?_; refine T_n ?_
    refine A_seq ?_; refine A_seq ?_; refine A_region ?_; refine M0 (q_fldp rfl rfl rfl rfl (by decide)) rfl rfl ?_; refine M0 (q_ld1 rfl rfl rfl rfl rfl) rfl rfl ?_
    refine M0 (q_fldp rfl rfl rfl rfl (by decide)) rfl rfl ?_; refine M0 (q_ld1 rfl rfl rfl rfl rfl) rfl rfl ?_; refine M0 (q_call0 rfl rfl (hc_Used) rfl) rfl rfl ?_
    refine M0 (q_not rfl rfl rfl) rfl rfl ?_; refine L_nil ?_; refine T_n ?_; refine A_ifF rfl ?_; refine A_skip ?_; refine T_n ?_; refine A_seq ?_; refine A_seq ?_; refine A_region ?_
    refine M0 (q_fldp rfl rfl rfl rfl (by decide)) rfl rfl ?_; refine M0 (q_ld1 rfl rfl rfl rfl rfl) rfl rfl ?_; refine M0 (q_fldp rfl rfl rfl rfl (by decide)) rfl rfl ?_
    refine M0 (q_ld1 rfl rfl rfl rfl rfl) rfl rfl ?_; refine M0 (q_call0 rfl rfl (hc_Saves) rfl) rfl rfl ?_; refine M0 (q_not rfl rfl rfl) rfl rfl ?_; refine L_nil ?_; refine T_n ?_
    refine A_ifF rfl ?_; refine A_skip ?_; refine T_n ?_; refine A_seq ?_; refine A_seq ?_; refine A_region ?_; refine M0 (q_fldp rfl rfl rfl rfl (by decide)) rfl rfl ?_
    refine M0 (q_ld1 rfl rfl rfl rfl rfl) rfl rfl ?_; refine M0 (q_fldp rfl rfl rfl rfl (by decide)) rfl rfl ?_; refine M0 (q_ld1 rfl rfl rfl rfl rfl) rfl rfl ?_
    refine M0 (q_call0 rfl rfl (hc_Sums) rfl) rfl rfl ?_; refine M0 (q_not rfl rfl rfl) rfl rfl ?_; refine L_nil ?_; refine T_n ?_; refine A_ifF rfl ?_; refine A_skip ?_; refine T_n ?_
    refine A_seq ?_; refine A_seq ?_; refine A_region ?_; refine M0 (q_fldp rfl rfl rfl rfl (by decide)) rfl rfl ?_; refine M0 (q_ldN rfl rfl rfl rfl rfl rfl) rfl rfl ?_
    refine M0 (q_fldp rfl rfl rfl rfl (by decide)) rfl rfl ?_; refine M0 (q_ldN rfl rfl rfl rfl rfl rfl) rfl rfl ?_; refine M0 (q_call0 rfl rfl (hc_Fault) rfl) rfl rfl ?_
    refine M0 (q_not rfl rfl rfl) rfl rfl ?_; refine L_nil ?_; refine T_n ?_; refine A_ifF rfl ?_; refine A_skip ?_; refine T_n ?_; refine A_seq ?_; refine A_seq ?_; refine A_region ?_
    refine M0 (q_fldp rfl rfl rfl rfl (by decide)) rfl rfl ?_; refine M0 (q_ld1 rfl rfl rfl rfl rfl) rfl rfl ?_; refine M0 (q_fldp rfl rfl rfl rfl (by decide)) rfl rfl ?_
    refine M0 (q_ld1 rfl rfl rfl rfl rfl) rfl rfl ?_; refine M0 (q_neqK rfl rfl rfl rfl (by assumption)) rfl rfl ?_; refine L_nil ?_; refine T_n ?_; refine A_ifF rfl ?_; refine A_skip ?_
    refine T_n ?_; refine A_seq ?_; refine A_seq ?_; refine A_region ?_; refine M0 (q_fldp rfl rfl rfl rfl (by decide)) rfl rfl ?_; refine M0 (q_ld1 rfl rfl rfl rfl rfl) rfl rfl ?_
    refine M0 (q_fldp rfl rfl rfl rfl (by decide)) rfl rfl ?_; refine M0 (q_ld1 rfl rfl rfl rfl rfl) rfl rfl ?_; refine M0 (q_neqK rfl rfl rfl rfl (by assumption)) rfl rfl ?_
    refine L_nil ?_; refine T_n ?_; refine A_ifT rfl ?_; refine A_seq ?_; refine A_region ?_; refine M0 (q_assignC rfl rfl rfl) rfl rfl ?_; refine L_nil ?_; refine T_n ?_; refine A_ret ?_; refine T_r ?_
    refine F_r ?_
    exact E_tmp rfl rfl (W_end [] (by decide) rfl rfl (B_eq (decide_eq_false fun e => e_Again (by rw [e])).symm))
  have e_Again := Classical.not_not.1 e_Again
  have k_Again : decide (x.Again ≠ y.Again) = false := by simp [e_Again]
  refine Con.of Try.func11 rfl Try.ntmps11 rfl (fun E => ?_)
  refine A_seq ?_; refine A_region ?_; refine M1 (q_boxN rfl rfl rfl rfl) rfl rfl ?_; refine M1 (q_boxN rfl rfl rfl rfl) rfl rfl ?_; refine M0 (q_assignC rfl rfl rfl) rfl rfl ?_
  refine L_nil ?_; refine T_n ?_; refine A_seq ?_; refine A_seq ?_; refine A_region ?_; refine M0 (q_fldp rfl rfl rfl rfl (by decide)) rfl rfl ?_
  refine M0 (q_ld1 rfl rfl rfl rfl rfl) rfl rfl ?_; refine M0 (q_fldp rfl rfl rfl rfl (by decide)) rfl rfl ?_; refine M0 (q_ld1 rfl rfl rfl rfl rfl) rfl rfl ?_
  refine M0 (q_neqK rfl rfl rfl rfl (by assumption)) rfl rfl ?_; refine L_nil ?_; refine T_n ?_; refine A_ifF rfl ?_; refine A_skip ?_; refine T_n ?_; refine A_seq ?_; refine A_seq ?_
  refine A_region ?_; refine M0 (q_fldp rfl rfl rfl rfl (by decide)) rfl rfl ?_; refine M0 (q_ld1 rfl rfl rfl rfl rfl) rfl rfl ?_; refine M0 (q_fldp rfl rfl rfl rfl (by decide)) rfl rfl ?_
  refine M0 (q_ld1 rfl rfl rfl rfl rfl) rfl rfl ?_; refine M0 (q_neqK rfl rfl rfl rfl (by assumption)) rfl rfl ?_; refine L_nil ?_; refine T_n ?_; refine A_ifF rfl ?_; refine A_skip ?_
  refine T_n ?_; refine A_seq ?_; refine A_seq ?_; refine A_region ?_; refine M0 (q_fldp rfl rfl rfl rfl (by decide)) rfl rfl ?_; refine M0 (q_ld1 rfl rfl rfl rfl rfl) rfl rfl ?_
  refine M0 (q_fldp rfl rfl rfl rfl (by decide)) rfl rfl ?_; refine M0 (q_ld1 rfl rfl rfl rfl rfl) rfl rfl ?_; refine M0 (q_neqK rfl rfl rfl rfl (by assumption)) rfl rfl ?_
  refine L_nil ?_; refine T_n ?_; refine A_ifF rfl ?_; refine A_skip ?_; refine T_n ?_; refine A_seq ?_; refine A_seq ?_; refine A_region ?_
  refine M0 (q_fldp rfl rfl rfl rfl (by decide)) rfl rfl ?_; refine M0 (q_ld1 rfl rfl rfl rfl rfl) rfl rfl ?_; refine M0 (q_fldp rfl rfl rfl rfl (by decide)) rfl rfl ?_
  refine M0 (q_ld1 rfl rfl rfl rfl rfl) rfl rfl ?_; refine M0 (q_neqK rfl rfl rfl rfl (by assumption)) rfl rfl ?_; refine L_nil ?_; refine T_n ?_; refine A_ifF rfl ?_; refine A_skip ?_
  refine T_n ?_; refine A_seq ?_; refine A_seq ?_; refine A_region ?_; refine M0 (q_fldp rfl rfl rfl rfl (by decide)) rfl rfl ?_; refine M0 (q_ld1 rfl rfl rfl rfl rfl) rfl rfl ?_
  refine M0 (q_fldp rfl rfl rfl rfl (by decide)) rfl rfl ?_; refine M0 (q_ld1 rfl rfl rfl rfl rfl) rfl rfl ?_; refine M0 (q_call0 rfl rfl (hc_Tracks) rfl) rfl rfl ?_
  refine M0 (q_not rfl rfl rfl) rfl rfl ?_; refine L_nil ?_; refine T_n ?_; refine A_ifF rfl ?_; refine A_skip ?_; refine T_n ?_; refine A_seq ?_; refine A_seq ?_; refine A_region ?_
  refine M0 (q_fldp rfl rfl rfl rfl (by decide)) rfl rfl ?_; refine M0 (q_ldN rfl rfl rfl rfl rfl rfl) rfl rfl ?_; refine M0 (q_fldp rfl rfl rfl rfl (by decide)) rfl rfl ?_
  refine M0 (q_ldN rfl rfl rfl rfl rfl rfl) rfl rfl ?_; refine M0 (q_call0 rfl rfl (hc_Base) rfl) rfl rfl ?_; refine M0 (q_not rfl rfl rfl) rfl rfl ?_; refine L_nil ?_; refine T_n ?_
  refine A_ifF rfl ?_; refine A_skip ?_; refine T_n ?_; refine A_seq ?_; refine A_seq ?_; refine A_region ?_; refine M0 (q_fldp rfl rfl rfl rfl (by decide)) rfl rfl ?_
  refine M0 (q_ldN rfl rfl rfl rfl rfl rfl) rfl rfl ?_; refine M0 (q_fldp rfl rfl rfl rfl (by decide)) rfl rfl ?_; refine M0 (q_ldN rfl rfl rfl rfl rfl rfl) rfl rfl ?_
  refine M0 (q_call0 rfl rfl (hc_Now) rfl) rfl rfl ?_; refine M0 (q_not rfl rfl rfl) rfl rfl ?_; refine L_nil ?_; refine T_n ?_; refine A_ifF rfl ?_; refine A_skip ?_; refine T_n ?_
  refine A_seq ?_; refine A_seq ?_; refine A_region ?_; refine M0 (q_fldp rfl rfl rfl rfl (by decide)) rfl rfl ?_; refine M0 (q_ld1 rfl rfl rfl rfl rfl) rfl rfl ?_
  refine M0 (q_fldp rfl rfl rfl rfl (by decide)) rfl rfl ?_; refine M0 (q_ld1 rfl rfl rfl rfl rfl) rfl rfl ?_; refine M0 (q_call0 rfl rfl (hc_Used) rfl) rfl rfl ?_
  refine M0 (q_not rfl rfl rfl) rfl rfl ?_; refine L_nil ?_; refine T_n ?_; refine A_ifF rfl ?_; refine A_skip ?_; refine T_n ?_; refine A_seq ?_; refine A_seq ?_; refine A_region ?_
  refine M0 (q_fldp rfl rfl rfl rfl (by decide)) rfl rfl ?_; refine M0 (q_ld1 rfl rfl rfl rfl rfl) rfl rfl ?_; refine M0 (q_fldp rfl rfl rfl rfl (by decide)) rfl rfl ?_
  refine M0 (q_ld1 rfl rfl rfl rfl rfl) rfl rfl ?_; refine M0 (q_call0 rfl rfl (hc_Saves) rfl) rfl rfl ?_; refine M0 (q_not rfl rfl rfl) rfl rfl ?_; refine L_nil ?_; refine T_n ?_
  refine A_ifF rfl ?_; refine A_skip ?_; refine T_n ?_; refine A_seq ?_; refine A_seq ?_; refine A_region ?_; refine M0 (q_fldp rfl rfl rfl rfl (by decide)) rfl rfl ?_
  refine M0 (q_ld1 rfl rfl rfl rfl rfl) rfl rfl ?_; refine M0 (q_fldp rfl rfl rfl rfl (by decide)) rfl rfl ?_; refine M0 (q_ld1 rfl rfl rfl rfl rfl) rfl rfl ?_
  refine M0 (q_call0 rfl rfl (hc_Sums) rfl) rfl rfl ?_; refine M0 (q_not rfl rfl rfl) rfl rfl ?_; refine L_nil ?_; refine T_n ?_; refine A_ifF rfl ?_; refine A_skip ?_; refine T_n ?_
  refine A_seq ?_; refine A_seq ?_; refine A_region ?_; refine M0 (q_fldp rfl rfl rfl rfl (by decide)) rfl rfl ?_; refine M0 (q_ldN rfl rfl rfl rfl rfl rfl) rfl rfl ?_
  refine M0 (q_fldp rfl rfl rfl rfl (by decide)) rfl rfl ?_; refine M0 (q_ldN rfl rfl rfl rfl rfl rfl) rfl rfl ?_; refine M0 (q_call0 rfl rfl (hc_Fault) rfl) rfl rfl ?_
  refine M0 (q_not rfl rfl rfl) rfl rfl ?_; refine L_nil ?_; refine T_n ?_; refine A_ifF rfl ?_; refine A_skip ?_; refine T_n ?_; refine A_seq ?_; refine A_seq ?_; refine A_region ?_
  refine M0 (q_fldp rfl rfl rfl rfl (by decide)) rfl rfl ?_; refine M0 (q_ld1 rfl rfl rfl rfl rfl) rfl rfl ?_; refine M0 (q_fldp rfl rfl rfl rfl (by decide)) rfl rfl ?_
  refine M0 (q_ld1 rfl rfl rfl rfl rfl) rfl rfl ?_; refine M0 (q_neqK rfl rfl rfl rfl (by assumption)) rfl rfl ?_; refine L_nil ?_; refine T_n ?_; refine A_ifF rfl ?_; refine A_skip ?_
  refine T_n ?_; refine A_seq ?_; refine A_seq ?_; refine A_region ?_; refine M0 (q_fldp rfl rfl rfl rfl (by decide)) rfl rfl ?_; refine M0 (q_ld1 rfl rfl rfl rfl rfl) rfl rfl ?_
  refine M0 (q_fldp rfl rfl rfl rfl (by decide)) rfl rfl ?_; refine M0 (q_ld1 rfl rfl rfl rfl rfl) rfl rfl ?_; refine M0 (q_neqK rfl rfl rfl rfl (by assumption)) rfl rfl ?_
  refine L_nil ?_; refine T_n ?_; refine A_ifF rfl ?_; refine A_skip ?_; refine T_n ?_; refine A_seq ?_; refine A_region ?_; refine M0 (q_assignC rfl rfl rfl) rfl rfl ?_; refine L_nil ?_
  refine T_n ?_; refine A_ret ?_; refine F_r ?_
  exact E_tmp rfl rfl (W_end [] (by decide) rfl rfl (B_eq (decide_eq_true (TPeer.same e_Me e_Delay e_Ahead e_Seed e_Tracks e_Base e_Now e_Used e_Saves e_Sums e_Fault e_Rolls e_Again)).symm))
end Go.Proofs.Ytbpebmolbdplmaa
end

section
set_option linter.unusedVariables false
set_option linter.unusedSimpArgs false
set_option maxRecDepth 8000
namespace Go.Proofs.Ytbpebmolbdplmaa
open Go.RowKit

structure TFlight where
  At : Int
  Data : ByteArray
  deriving DecidableEq
instance : Enc TFlight := ⟨2, by omega, fun x => [.v (.int .i64 x.At), .v (.string x.Data)], fun _ => rfl, fun x => Enc.gd x.At ∧ Enc.gd x.Data, fun x => Enc.wt x.Data⟩
theorem TFlight.same {x y : TFlight} (h0 : x.At = y.At) (h1 : x.Data = y.Data) : x = y := by cases x; cases y; simp_all
structure TWire where
  Seed : Int
  Delay : Int
  Jitter : Int
  Loss : Int
  Copies : Int
  Damage : Int
  Now : Int
  Flights : (List TFlight)
  Sent : Int
  Lost : Int
  deriving DecidableEq
instance : Enc TWire := ⟨10, by omega, fun x => [.v (.int .i64 x.Seed), .v (.int .i64 x.Delay), .v (.int .i64 x.Jitter), .v (.int .i64 x.Loss), .v (.int .i64 x.Copies), .v (.int .i64 x.Damage), .v (.int .i64 x.Now), sl x.Flights, .v (.int .i64 x.Sent), .v (.int .i64 x.Lost)], fun _ => rfl, fun x => Enc.gd x.Seed ∧ Enc.gd x.Delay ∧ Enc.gd x.Jitter ∧ Enc.gd x.Loss ∧ Enc.gd x.Copies ∧ Enc.gd x.Damage ∧ Enc.gd x.Now ∧ Enc.gd x.Flights ∧ Enc.gd x.Sent ∧ Enc.gd x.Lost, fun x => Enc.wt x.Flights⟩
theorem TWire.same {x y : TWire} (h0 : x.Seed = y.Seed) (h1 : x.Delay = y.Delay) (h2 : x.Jitter = y.Jitter) (h3 : x.Loss = y.Loss) (h4 : x.Copies = y.Copies) (h5 : x.Damage = y.Damage) (h6 : x.Now = y.Now) (h7 : x.Flights = y.Flights) (h8 : x.Sent = y.Sent) (h9 : x.Lost = y.Lost) : x = y := by cases x; cases y; simp_all
structure TPace where
  Newest : Int
  Their : Int
  At : Int
  Trip : Int
  Samples : Int
  deriving DecidableEq
instance : Enc TPace := ⟨5, by omega, fun x => [.v (.int .i64 x.Newest), .v (.int .i64 x.Their), .v (.int .i64 x.At), .v (.int .i64 x.Trip), .v (.int .i64 x.Samples)], fun _ => rfl, fun x => Enc.gd x.Newest ∧ Enc.gd x.Their ∧ Enc.gd x.At ∧ Enc.gd x.Trip ∧ Enc.gd x.Samples, fun x => 0⟩
theorem TPace.same {x y : TPace} (h0 : x.Newest = y.Newest) (h1 : x.Their = y.Their) (h2 : x.At = y.At) (h3 : x.Trip = y.Trip) (h4 : x.Samples = y.Samples) : x = y := by cases x; cases y; simp_all
structure TAlarm where
  Tick : Int
  Parts : (List ByteArray)
  deriving DecidableEq
instance : Enc TAlarm := ⟨2, by omega, fun x => [.v (.int .i64 x.Tick), sl x.Parts], fun _ => rfl, fun x => Enc.gd x.Tick ∧ Enc.gd x.Parts, fun x => Enc.wt x.Parts⟩
theorem TAlarm.same {x y : TAlarm} (h0 : x.Tick = y.Tick) (h1 : x.Parts = y.Parts) : x = y := by cases x; cases y; simp_all
structure TMatch where
  Level : TLevel
  Seed : Int
  Delay : Int
  Scripts : (List (List Int))
  Peers : (List TPeer)
  Wires : (List (List TWire))
  Paces : (List (List TPace))
  Acks : (List (List Int))
  Clock : Int
  Watchers : (List TSpectator)
  Lines : (List TWire)
  Alarms : (List TAlarm)
  Bad : Int
  deriving DecidableEq
instance : Enc TMatch := ⟨13, by omega, fun x => [sl x.Level.Rows, .v (.int .i64 x.Seed), .v (.int .i64 x.Delay), sl x.Scripts, sl x.Peers, sl x.Wires, sl x.Paces, sl x.Acks, .v (.int .i64 x.Clock), sl x.Watchers, sl x.Lines, sl x.Alarms, .v (.int .i64 x.Bad)], fun _ => rfl, fun x => Enc.gd x.Level ∧ Enc.gd x.Seed ∧ Enc.gd x.Delay ∧ Enc.gd x.Scripts ∧ Enc.gd x.Peers ∧ Enc.gd x.Wires ∧ Enc.gd x.Paces ∧ Enc.gd x.Acks ∧ Enc.gd x.Clock ∧ Enc.gd x.Watchers ∧ Enc.gd x.Lines ∧ Enc.gd x.Alarms ∧ Enc.gd x.Bad, fun x => Enc.wt x.Level + Enc.wt x.Scripts + Enc.wt x.Peers + Enc.wt x.Wires + Enc.wt x.Paces + Enc.wt x.Acks + Enc.wt x.Watchers + Enc.wt x.Lines + Enc.wt x.Alarms⟩
theorem TMatch.same {x y : TMatch} (h0 : x.Level = y.Level) (h1 : x.Seed = y.Seed) (h2 : x.Delay = y.Delay) (h3 : x.Scripts = y.Scripts) (h4 : x.Peers = y.Peers) (h5 : x.Wires = y.Wires) (h6 : x.Paces = y.Paces) (h7 : x.Acks = y.Acks) (h8 : x.Clock = y.Clock) (h9 : x.Watchers = y.Watchers) (h10 : x.Lines = y.Lines) (h11 : x.Alarms = y.Alarms) (h12 : x.Bad = y.Bad) : x = y := by cases x; cases y; simp_all

set_option maxHeartbeats 2000000 in
theorem sz_Flight (x : TFlight) (left : Int) (hg : Enc.gd x) (h0 : 0 ≤ left) (h1 : left ≤ 1048576) : Con Try.prog 138 [] [ag x, ai left] [] (I (szr (Enc.wt x) left)) := by
  obtain ⟨g_At, g_Data⟩ := hg
  have hw : Enc.wt x = Enc.wt x.Data := rfl
  have hm1 : decide ((-1 : Int) < 0) = true := rfl
  have hgd_Data : x.Data.size ≤ 9223372036854775807 := g_Data
  have hs_Data : Enc.wt x.Data = x.Data.size := rfl
  by_cases n_Data : left - (x.Data.size : Int) < 0
  · have hb : decide (left - (x.Data.size : Int) < 0) = true := decide_eq_true n_Data
    refine Con.of Try.func138 rfl Try.ntmps138 rfl (fun E => ?_)
    refine A_seq ?_; refine A_region ?_; refine M1 (q_boxN rfl rfl rfl rfl) rfl rfl ?_; refine M0 (q_assignC rfl rfl rfl) rfl rfl ?_; refine L_nil ?_; refine T_n ?_; refine A_seq ?_
    refine A_region ?_; refine M0 (q_moveC rfl rfl rfl) rfl rfl ?_; refine M0 (q_fldp rfl rfl rfl rfl (by decide)) rfl rfl ?_; refine M0 (q_ld1 rfl rfl rfl rfl rfl) rfl rfl ?_
    refine M0 (q_lens rfl rfl rfl) rfl rfl ?_; refine M0 (q_sub rfl rfl rfl rfl (by omega)) rfl rfl ?_; refine M0 (q_assignC rfl rfl rfl) rfl rfl ?_; refine L_nil ?_; refine T_n ?_
    refine A_seq ?_; refine A_seq ?_; refine A_region ?_; refine M0 (q_moveC rfl rfl rfl) rfl rfl ?_; refine M0 (q_lssK rfl rfl rfl rfl (by assumption)) rfl rfl ?_; refine L_nil ?_; refine T_n ?_
    refine A_ifT rfl ?_; refine A_seq ?_; refine A_region ?_; refine M0 (q_assignC rfl rfl rfl) rfl rfl ?_; refine L_nil ?_; refine T_n ?_; refine A_ret ?_; refine T_r ?_; refine F_r ?_
    exact E_tmp rfl rfl (W_end [] (by decide) rfl rfl (I_eq (by rw [szr_neg (by omega)])))
  have hb_Data : decide (left - (x.Data.size : Int) < 0) = false := decide_eq_false n_Data
  refine Con.of Try.func138 rfl Try.ntmps138 rfl (fun E => ?_)
  refine A_seq ?_; refine A_region ?_; refine M1 (q_boxN rfl rfl rfl rfl) rfl rfl ?_; refine M0 (q_assignC rfl rfl rfl) rfl rfl ?_; refine L_nil ?_; refine T_n ?_; refine A_seq ?_
  refine A_region ?_; refine M0 (q_moveC rfl rfl rfl) rfl rfl ?_; refine M0 (q_fldp rfl rfl rfl rfl (by decide)) rfl rfl ?_; refine M0 (q_ld1 rfl rfl rfl rfl rfl) rfl rfl ?_
  refine M0 (q_lens rfl rfl rfl) rfl rfl ?_; refine M0 (q_sub rfl rfl rfl rfl (by omega)) rfl rfl ?_; refine M0 (q_assignC rfl rfl rfl) rfl rfl ?_; refine L_nil ?_; refine T_n ?_
  refine A_seq ?_; refine A_seq ?_; refine A_region ?_; refine M0 (q_moveC rfl rfl rfl) rfl rfl ?_; refine M0 (q_lssK rfl rfl rfl rfl (by assumption)) rfl rfl ?_; refine L_nil ?_; refine T_n ?_
  refine A_ifF rfl ?_; refine A_skip ?_; refine T_n ?_; refine A_seq ?_; refine A_region ?_; refine M0 (q_moveC rfl rfl rfl) rfl rfl ?_; refine M0 (q_assignC rfl rfl rfl) rfl rfl ?_
  refine L_nil ?_; refine T_n ?_; refine A_ret ?_; refine F_r ?_
  exact E_tmp rfl rfl (W_end [] (by decide) rfl rfl (I_eq (by rw [szr_pos (by omega)]; omega)))
set_option maxHeartbeats 2000000 in
theorem to_Flight (x : TFlight) (hg : Enc.wt x ≤ 1048576) : Con Try.prog 139 [] [ag x] (ownO (Enc.e x)) (.o (.ag (ownV 0 (Enc.e x)))) := by
  have hw : Enc.wt x = Enc.wt x.Data := rfl
  refine Con.of Try.func139 rfl Try.ntmps139 rfl (fun E => ?_)
  refine A_seq ?_; refine A_region ?_; refine M1 (q_boxN rfl rfl rfl rfl) rfl rfl ?_; refine M1 (q_alloc rfl rfl rfl) rfl rfl ?_; refine L_nil ?_; refine T_n ?_; refine A_seq ?_
  refine A_region ?_; refine M1 (q_alloc rfl rfl rfl) rfl rfl ?_; refine L_nil ?_; refine T_n ?_; refine A_seq ?_; refine A_region ?_; refine M0 (q_fldp rfl rfl rfl rfl (by decide)) rfl rfl ?_
  refine M0 (q_ld1 rfl rfl rfl rfl rfl) rfl rfl ?_; refine M0 (q_fldp rfl rfl rfl rfl (by decide)) rfl rfl ?_; refine M_st1 rfl rfl rfl rfl rfl rfl rfl rfl ?_; refine L_nil ?_; refine T_n ?_
  refine A_seq ?_; refine A_region ?_; refine M0 (q_fldp rfl rfl rfl rfl (by decide)) rfl rfl ?_; refine M0 (q_ld1 rfl rfl rfl rfl rfl) rfl rfl ?_
  refine M0 (q_fldp rfl rfl rfl rfl (by decide)) rfl rfl ?_; refine M_st1 rfl rfl rfl rfl rfl rfl rfl rfl ?_; refine L_nil ?_; refine T_n ?_; refine A_seq ?_; refine A_region ?_
  refine M0 (q_ldN rfl rfl rfl rfl rfl rfl) rfl rfl ?_; refine M_stN rfl rfl rfl rfl rfl rfl rfl rfl rfl ?_; refine L_nil ?_; refine T_n ?_; refine A_ret ?_; refine F_r ?_
  exact E_cell rfl rfl rfl rfl (W_end [] (by decide) rfl rfl rfl)
set_option maxHeartbeats 2000000 in
theorem eq_Flight (x y : TFlight) (hg : Enc.gd x) : Con Try.prog 140 [] [ag x, ag y] [] (B (decide (x = y))) := by
  obtain ⟨g_At, g_Data⟩ := hg
  by_cases e_At : ¬ x.At = y.At
  · have hk : decide (x.At ≠ y.At) = true := by simp [e_At]
    refine Con.of Try.func140 rfl Try.ntmps140 rfl (fun E => ?_)
    refine A_seq ?_; refine A_region ?_; refine M1 (q_boxN rfl rfl rfl rfl) rfl rfl ?_; refine M1 (q_boxN rfl rfl rfl rfl) rfl rfl ?_; refine M0 (q_assignC rfl rfl rfl) rfl rfl ?_
    refine L_nil ?_; refine T_n ?_; refine A_seq ?_; refine A_seq ?_; refine A_region ?_; refine M0 (q_fldp rfl rfl rfl rfl (by decide)) rfl rfl ?_
    refine M0 (q_ld1 rfl rfl rfl rfl rfl) rfl rfl ?_; refine M0 (q_fldp rfl rfl rfl rfl (by decide)) rfl rfl ?_; refine M0 (q_ld1 rfl rfl rfl rfl rfl) rfl rfl ?_
    refine M0 (q_neqK rfl rfl rfl rfl (by assumption)) rfl rfl ?_; refine L_nil ?_; refine T_n ?_; refine A_ifT rfl ?_; refine A_seq ?_; refine A_region ?_
    refine M0 (q_assignC rfl rfl rfl) rfl rfl ?_; refine L_nil ?_; refine T_n ?_; refine A_ret ?_; refine T_r ?_; refine F_r ?_
    exact E_tmp rfl rfl (W_end [] (by decide) rfl rfl (B_eq (decide_eq_false fun e => e_At (by rw [e])).symm))
  have e_At := Classical.not_not.1 e_At
  have k_At : decide (x.At ≠ y.At) = false := by simp [e_At]
  by_cases e_Data : ¬ x.Data = y.Data
  · have hk : decide (x.Data ≠ y.Data) = true := by simp [e_Data]
    refine Con.of Try.func140 rfl Try.ntmps140 rfl (fun E => ?_)
    refine A_seq ?_; refine A_region ?_; refine M1 (q_boxN rfl rfl rfl rfl) rfl rfl ?_; refine M1 (q_boxN rfl rfl rfl rfl) rfl rfl ?_; refine M0 (q_assignC rfl rfl rfl) rfl rfl ?_
    refine L_nil ?_; refine T_n ?_; refine A_seq ?_; refine A_seq ?_; refine A_region ?_; refine M0 (q_fldp rfl rfl rfl rfl (by decide)) rfl rfl ?_
    refine M0 (q_ld1 rfl rfl rfl rfl rfl) rfl rfl ?_; refine M0 (q_fldp rfl rfl rfl rfl (by decide)) rfl rfl ?_; refine M0 (q_ld1 rfl rfl rfl rfl rfl) rfl rfl ?_
    refine M0 (q_neqK rfl rfl rfl rfl (by assumption)) rfl rfl ?_; refine L_nil ?_; refine T_n ?_; refine A_ifF rfl ?_; refine A_skip ?_; refine T_n ?_; refine A_seq ?_; refine A_seq ?_
    refine A_region ?_; refine M0 (q_fldp rfl rfl rfl rfl (by decide)) rfl rfl ?_; refine M0 (q_ld1 rfl rfl rfl rfl rfl) rfl rfl ?_; refine M0 (q_fldp rfl rfl rfl rfl (by decide)) rfl rfl ?_
    refine M0 (q_ld1 rfl rfl rfl rfl rfl) rfl rfl ?_; refine M0 (q_sneqK rfl rfl rfl rfl (by assumption)) rfl rfl ?_; refine L_nil ?_; refine T_n ?_; refine A_ifT rfl ?_; refine A_seq ?_
    refine A_region ?_; refine M0 (q_assignC rfl rfl rfl) rfl rfl ?_; refine L_nil ?_; refine T_n ?_; refine A_ret ?_; refine T_r ?_; refine F_r ?_
    exact E_tmp rfl rfl (W_end [] (by decide) rfl rfl (B_eq (decide_eq_false fun e => e_Data (by rw [e])).symm))
  have e_Data := Classical.not_not.1 e_Data
  have k_Data : decide (x.Data ≠ y.Data) = false := by simp [e_Data]
  refine Con.of Try.func140 rfl Try.ntmps140 rfl (fun E => ?_)
  refine A_seq ?_; refine A_region ?_; refine M1 (q_boxN rfl rfl rfl rfl) rfl rfl ?_; refine M1 (q_boxN rfl rfl rfl rfl) rfl rfl ?_; refine M0 (q_assignC rfl rfl rfl) rfl rfl ?_
  refine L_nil ?_; refine T_n ?_; refine A_seq ?_; refine A_seq ?_; refine A_region ?_; refine M0 (q_fldp rfl rfl rfl rfl (by decide)) rfl rfl ?_
  refine M0 (q_ld1 rfl rfl rfl rfl rfl) rfl rfl ?_; refine M0 (q_fldp rfl rfl rfl rfl (by decide)) rfl rfl ?_; refine M0 (q_ld1 rfl rfl rfl rfl rfl) rfl rfl ?_
  refine M0 (q_neqK rfl rfl rfl rfl (by assumption)) rfl rfl ?_; refine L_nil ?_; refine T_n ?_; refine A_ifF rfl ?_; refine A_skip ?_; refine T_n ?_; refine A_seq ?_; refine A_seq ?_
  refine A_region ?_; refine M0 (q_fldp rfl rfl rfl rfl (by decide)) rfl rfl ?_; refine M0 (q_ld1 rfl rfl rfl rfl rfl) rfl rfl ?_; refine M0 (q_fldp rfl rfl rfl rfl (by decide)) rfl rfl ?_
  refine M0 (q_ld1 rfl rfl rfl rfl rfl) rfl rfl ?_; refine M0 (q_sneqK rfl rfl rfl rfl (by assumption)) rfl rfl ?_; refine L_nil ?_; refine T_n ?_; refine A_ifF rfl ?_; refine A_skip ?_
  refine T_n ?_; refine A_seq ?_; refine A_region ?_; refine M0 (q_assignC rfl rfl rfl) rfl rfl ?_; refine L_nil ?_; refine T_n ?_; refine A_ret ?_; refine F_r ?_
  exact E_tmp rfl rfl (W_end [] (by decide) rfl rfl (B_eq (decide_eq_true (TFlight.same e_At e_Data)).symm))
set_option maxHeartbeats 2000000 in
theorem to_Pace (x : TPace) (hg : Enc.wt x ≤ 1048576) : Con Try.prog 130 [] [ag x] (ownO (Enc.e x)) (.o (.ag (ownV 0 (Enc.e x)))) := by
  refine Con.of Try.func130 rfl Try.ntmps130 rfl (fun E => ?_)
  refine A_seq ?_; refine A_region ?_; refine M1 (q_boxN rfl rfl rfl rfl) rfl rfl ?_; refine M1 (q_alloc rfl rfl rfl) rfl rfl ?_; refine L_nil ?_; refine T_n ?_; refine A_seq ?_
  refine A_region ?_; refine M1 (q_alloc rfl rfl rfl) rfl rfl ?_; refine L_nil ?_; refine T_n ?_; refine A_seq ?_; refine A_region ?_; refine M0 (q_fldp rfl rfl rfl rfl (by decide)) rfl rfl ?_
  refine M0 (q_ld1 rfl rfl rfl rfl rfl) rfl rfl ?_; refine M0 (q_fldp rfl rfl rfl rfl (by decide)) rfl rfl ?_; refine M_st1 rfl rfl rfl rfl rfl rfl rfl rfl ?_; refine L_nil ?_; refine T_n ?_
  refine A_seq ?_; refine A_region ?_; refine M0 (q_fldp rfl rfl rfl rfl (by decide)) rfl rfl ?_; refine M0 (q_ld1 rfl rfl rfl rfl rfl) rfl rfl ?_
  refine M0 (q_fldp rfl rfl rfl rfl (by decide)) rfl rfl ?_; refine M_st1 rfl rfl rfl rfl rfl rfl rfl rfl ?_; refine L_nil ?_; refine T_n ?_; refine A_seq ?_; refine A_region ?_
  refine M0 (q_fldp rfl rfl rfl rfl (by decide)) rfl rfl ?_; refine M0 (q_ld1 rfl rfl rfl rfl rfl) rfl rfl ?_; refine M0 (q_fldp rfl rfl rfl rfl (by decide)) rfl rfl ?_
  refine M_st1 rfl rfl rfl rfl rfl rfl rfl rfl ?_; refine L_nil ?_; refine T_n ?_; refine A_seq ?_; refine A_region ?_; refine M0 (q_fldp rfl rfl rfl rfl (by decide)) rfl rfl ?_
  refine M0 (q_ld1 rfl rfl rfl rfl rfl) rfl rfl ?_; refine M0 (q_fldp rfl rfl rfl rfl (by decide)) rfl rfl ?_; refine M_st1 rfl rfl rfl rfl rfl rfl rfl rfl ?_; refine L_nil ?_; refine T_n ?_
  refine A_seq ?_; refine A_region ?_; refine M0 (q_fldp rfl rfl rfl rfl (by decide)) rfl rfl ?_; refine M0 (q_ld1 rfl rfl rfl rfl rfl) rfl rfl ?_
  refine M0 (q_fldp rfl rfl rfl rfl (by decide)) rfl rfl ?_; refine M_st1 rfl rfl rfl rfl rfl rfl rfl rfl ?_; refine L_nil ?_; refine T_n ?_; refine A_seq ?_; refine A_region ?_
  refine M0 (q_ldN rfl rfl rfl rfl rfl rfl) rfl rfl ?_; refine M_stN rfl rfl rfl rfl rfl rfl rfl rfl rfl ?_; refine L_nil ?_; refine T_n ?_; refine A_ret ?_; refine F_r ?_
  exact E_cell rfl rfl rfl rfl (W_end [] (by decide) rfl rfl rfl)
set_option maxHeartbeats 2000000 in
theorem eq_Pace (x y : TPace) (hg : Enc.gd x) : Con Try.prog 132 [] [ag x, ag y] [] (B (decide (x = y))) := by
  obtain ⟨g_Newest, g_Their, g_At, g_Trip, g_Samples⟩ := hg
  by_cases e_Newest : ¬ x.Newest = y.Newest
  · have hk : decide (x.Newest ≠ y.Newest) = true := by simp [e_Newest]
    refine Con.of Try.func132 rfl Try.ntmps132 rfl (fun E => ?_)
    refine A_seq ?_; refine A_region ?_; refine M1 (q_boxN rfl rfl rfl rfl) rfl rfl ?_; refine M1 (q_boxN rfl rfl rfl rfl) rfl rfl ?_; refine M0 (q_assignC rfl rfl rfl) rfl rfl ?_
    refine L_nil ?_; refine T_n ?_; refine A_seq ?_; refine A_seq ?_; refine A_region ?_; refine M0 (q_fldp rfl rfl rfl rfl (by decide)) rfl rfl ?_
    refine M0 (q_ld1 rfl rfl rfl rfl rfl) rfl rfl ?_; refine M0 (q_fldp rfl rfl rfl rfl (by decide)) rfl rfl ?_; refine M0 (q_ld1 rfl rfl rfl rfl rfl) rfl rfl ?_
    refine M0 (q_neqK rfl rfl rfl rfl (by assumption)) rfl rfl ?_; refine L_nil ?_; refine T_n ?_; refine A_ifT rfl ?_; refine A_seq ?_; refine A_region ?_
    refine M0 (q_assignC rfl rfl rfl) rfl rfl ?_; refine L_nil ?_; refine T_n ?_; refine A_ret ?_; refine T_r ?_; refine F_r ?_
    exact E_tmp rfl rfl (W_end [] (by decide) rfl rfl (B_eq (decide_eq_false fun e => e_Newest (by rw [e])).symm))
  have e_Newest := Classical.not_not.1 e_Newest
  have k_Newest : decide (x.Newest ≠ y.Newest) = false := by simp [e_Newest]
  by_cases e_Their : ¬ x.Their = y.Their
  · have hk : decide (x.Their ≠ y.Their) = true := by simp [e_Their]
    refine Con.of Try.func132 rfl Try.ntmps132 rfl (fun E => ?_)
    refine A_seq ?_; refine A_region ?_; refine M1 (q_boxN rfl rfl rfl rfl) rfl rfl ?_; refine M1 (q_boxN rfl rfl rfl rfl) rfl rfl ?_; refine M0 (q_assignC rfl rfl rfl) rfl rfl ?_
    refine L_nil ?_; refine T_n ?_; refine A_seq ?_; refine A_seq ?_; refine A_region ?_; refine M0 (q_fldp rfl rfl rfl rfl (by decide)) rfl rfl ?_
    refine M0 (q_ld1 rfl rfl rfl rfl rfl) rfl rfl ?_; refine M0 (q_fldp rfl rfl rfl rfl (by decide)) rfl rfl ?_; refine M0 (q_ld1 rfl rfl rfl rfl rfl) rfl rfl ?_
    refine M0 (q_neqK rfl rfl rfl rfl (by assumption)) rfl rfl ?_; refine L_nil ?_; refine T_n ?_; refine A_ifF rfl ?_; refine A_skip ?_; refine T_n ?_; refine A_seq ?_; refine A_seq ?_
    refine A_region ?_; refine M0 (q_fldp rfl rfl rfl rfl (by decide)) rfl rfl ?_; refine M0 (q_ld1 rfl rfl rfl rfl rfl) rfl rfl ?_; refine M0 (q_fldp rfl rfl rfl rfl (by decide)) rfl rfl ?_
    refine M0 (q_ld1 rfl rfl rfl rfl rfl) rfl rfl ?_; refine M0 (q_neqK rfl rfl rfl rfl (by assumption)) rfl rfl ?_; refine L_nil ?_; refine T_n ?_; refine A_ifT rfl ?_; refine A_seq ?_
    refine A_region ?_; refine M0 (q_assignC rfl rfl rfl) rfl rfl ?_; refine L_nil ?_; refine T_n ?_; refine A_ret ?_; refine T_r ?_; refine F_r ?_
    exact E_tmp rfl rfl (W_end [] (by decide) rfl rfl (B_eq (decide_eq_false fun e => e_Their (by rw [e])).symm))
  have e_Their := Classical.not_not.1 e_Their
  have k_Their : decide (x.Their ≠ y.Their) = false := by simp [e_Their]
  by_cases e_At : ¬ x.At = y.At
  · have hk : decide (x.At ≠ y.At) = true := by simp [e_At]
    refine Con.of Try.func132 rfl Try.ntmps132 rfl (fun E => ?_)
    refine A_seq ?_; refine A_region ?_; refine M1 (q_boxN rfl rfl rfl rfl) rfl rfl ?_; refine M1 (q_boxN rfl rfl rfl rfl) rfl rfl ?_; refine M0 (q_assignC rfl rfl rfl) rfl rfl ?_
    refine L_nil ?_; refine T_n ?_; refine A_seq ?_; refine A_seq ?_; refine A_region ?_; refine M0 (q_fldp rfl rfl rfl rfl (by decide)) rfl rfl ?_
    refine M0 (q_ld1 rfl rfl rfl rfl rfl) rfl rfl ?_; refine M0 (q_fldp rfl rfl rfl rfl (by decide)) rfl rfl ?_; refine M0 (q_ld1 rfl rfl rfl rfl rfl) rfl rfl ?_
    refine M0 (q_neqK rfl rfl rfl rfl (by assumption)) rfl rfl ?_; refine L_nil ?_; refine T_n ?_; refine A_ifF rfl ?_; refine A_skip ?_; refine T_n ?_; refine A_seq ?_; refine A_seq ?_
    refine A_region ?_; refine M0 (q_fldp rfl rfl rfl rfl (by decide)) rfl rfl ?_; refine M0 (q_ld1 rfl rfl rfl rfl rfl) rfl rfl ?_; refine M0 (q_fldp rfl rfl rfl rfl (by decide)) rfl rfl ?_
    refine M0 (q_ld1 rfl rfl rfl rfl rfl) rfl rfl ?_; refine M0 (q_neqK rfl rfl rfl rfl (by assumption)) rfl rfl ?_; refine L_nil ?_; refine T_n ?_; refine A_ifF rfl ?_; refine A_skip ?_
    refine T_n ?_; refine A_seq ?_; refine A_seq ?_; refine A_region ?_; refine M0 (q_fldp rfl rfl rfl rfl (by decide)) rfl rfl ?_; refine M0 (q_ld1 rfl rfl rfl rfl rfl) rfl rfl ?_
    refine M0 (q_fldp rfl rfl rfl rfl (by decide)) rfl rfl ?_; refine M0 (q_ld1 rfl rfl rfl rfl rfl) rfl rfl ?_; refine M0 (q_neqK rfl rfl rfl rfl (by assumption)) rfl rfl ?_
    refine L_nil ?_; refine T_n ?_; refine A_ifT rfl ?_; refine A_seq ?_; refine A_region ?_; refine M0 (q_assignC rfl rfl rfl) rfl rfl ?_; refine L_nil ?_; refine T_n ?_; refine A_ret ?_; refine T_r ?_
    refine F_r ?_
    exact E_tmp rfl rfl (W_end [] (by decide) rfl rfl (B_eq (decide_eq_false fun e => e_At (by rw [e])).symm))
  have e_At := Classical.not_not.1 e_At
  have k_At : decide (x.At ≠ y.At) = false := by simp [e_At]
  by_cases e_Trip : ¬ x.Trip = y.Trip
  · have hk : decide (x.Trip ≠ y.Trip) = true := by simp [e_Trip]
    refine Con.of Try.func132 rfl Try.ntmps132 rfl (fun E => ?_)
    refine A_seq ?_; refine A_region ?_; refine M1 (q_boxN rfl rfl rfl rfl) rfl rfl ?_; refine M1 (q_boxN rfl rfl rfl rfl) rfl rfl ?_; refine M0 (q_assignC rfl rfl rfl) rfl rfl ?_
    refine L_nil ?_; refine T_n ?_; refine A_seq ?_; refine A_seq ?_; refine A_region ?_; refine M0 (q_fldp rfl rfl rfl rfl (by decide)) rfl rfl ?_
    refine M0 (q_ld1 rfl rfl rfl rfl rfl) rfl rfl ?_; refine M0 (q_fldp rfl rfl rfl rfl (by decide)) rfl rfl ?_; refine M0 (q_ld1 rfl rfl rfl rfl rfl) rfl rfl ?_
    refine M0 (q_neqK rfl rfl rfl rfl (by assumption)) rfl rfl ?_; refine L_nil ?_; refine T_n ?_; refine A_ifF rfl ?_; refine A_skip ?_; refine T_n ?_; refine A_seq ?_; refine A_seq ?_
    refine A_region ?_; refine M0 (q_fldp rfl rfl rfl rfl (by decide)) rfl rfl ?_; refine M0 (q_ld1 rfl rfl rfl rfl rfl) rfl rfl ?_; refine M0 (q_fldp rfl rfl rfl rfl (by decide)) rfl rfl ?_
    refine M0 (q_ld1 rfl rfl rfl rfl rfl) rfl rfl ?_; refine M0 (q_neqK rfl rfl rfl rfl (by assumption)) rfl rfl ?_; refine L_nil ?_; refine T_n ?_; refine A_ifF rfl ?_; refine A_skip ?_
    refine T_n ?_; refine A_seq ?_; refine A_seq ?_; refine A_region ?_; refine M0 (q_fldp rfl rfl rfl rfl (by decide)) rfl rfl ?_; refine M0 (q_ld1 rfl rfl rfl rfl rfl) rfl rfl ?_
    refine M0 (q_fldp rfl rfl rfl rfl (by decide)) rfl rfl ?_; refine M0 (q_ld1 rfl rfl rfl rfl rfl) rfl rfl ?_; refine M0 (q_neqK rfl rfl rfl rfl (by assumption)) rfl rfl ?_
    refine L_nil ?_; refine T_n ?_; refine A_ifF rfl ?_; refine A_skip ?_; refine T_n ?_; refine A_seq ?_; refine A_seq ?_; refine A_region ?_
    refine M0 (q_fldp rfl rfl rfl rfl (by decide)) rfl rfl ?_; refine M0 (q_ld1 rfl rfl rfl rfl rfl) rfl rfl ?_; refine M0 (q_fldp rfl rfl rfl rfl (by decide)) rfl rfl ?_
    refine M0 (q_ld1 rfl rfl rfl rfl rfl) rfl rfl ?_; refine M0 (q_neqK rfl rfl rfl rfl (by assumption)) rfl rfl ?_; refine L_nil ?_; refine T_n ?_; refine A_ifT rfl ?_; refine A_seq ?_
    refine A_region ?_; refine M0 (q_assignC rfl rfl rfl) rfl rfl ?_; refine L_nil ?_; refine T_n ?_; refine A_ret ?_; refine T_r ?_; refine F_r ?_
    exact E_tmp rfl rfl (W_end [] (by decide) rfl rfl (B_eq (decide_eq_false fun e => e_Trip (by rw [e])).symm))
  have e_Trip := Classical.not_not.1 e_Trip
  have k_Trip : decide (x.Trip ≠ y.Trip) = false := by simp [e_Trip]
  by_cases e_Samples : ¬ x.Samples = y.Samples
  · have hk : decide (x.Samples ≠ y.Samples) = true := by simp [e_Samples]
    refine Con.of Try.func132 rfl Try.ntmps132 rfl (fun E => ?_)
    refine A_seq ?_; refine A_region ?_; refine M1 (q_boxN rfl rfl rfl rfl) rfl rfl ?_; refine M1 (q_boxN rfl rfl rfl rfl) rfl rfl ?_; refine M0 (q_assignC rfl rfl rfl) rfl rfl ?_
    refine L_nil ?_; refine T_n ?_; refine A_seq ?_; refine A_seq ?_; refine A_region ?_; refine M0 (q_fldp rfl rfl rfl rfl (by decide)) rfl rfl ?_
    refine M0 (q_ld1 rfl rfl rfl rfl rfl) rfl rfl ?_; refine M0 (q_fldp rfl rfl rfl rfl (by decide)) rfl rfl ?_; refine M0 (q_ld1 rfl rfl rfl rfl rfl) rfl rfl ?_
    refine M0 (q_neqK rfl rfl rfl rfl (by assumption)) rfl rfl ?_; refine L_nil ?_; refine T_n ?_; refine A_ifF rfl ?_; refine A_skip ?_; refine T_n ?_; refine A_seq ?_; refine A_seq ?_
    refine A_region ?_; refine M0 (q_fldp rfl rfl rfl rfl (by decide)) rfl rfl ?_; refine M0 (q_ld1 rfl rfl rfl rfl rfl) rfl rfl ?_; refine M0 (q_fldp rfl rfl rfl rfl (by decide)) rfl rfl ?_
    refine M0 (q_ld1 rfl rfl rfl rfl rfl) rfl rfl ?_; refine M0 (q_neqK rfl rfl rfl rfl (by assumption)) rfl rfl ?_; refine L_nil ?_; refine T_n ?_; refine A_ifF rfl ?_; refine A_skip ?_
    refine T_n ?_; refine A_seq ?_; refine A_seq ?_; refine A_region ?_; refine M0 (q_fldp rfl rfl rfl rfl (by decide)) rfl rfl ?_; refine M0 (q_ld1 rfl rfl rfl rfl rfl) rfl rfl ?_
    refine M0 (q_fldp rfl rfl rfl rfl (by decide)) rfl rfl ?_; refine M0 (q_ld1 rfl rfl rfl rfl rfl) rfl rfl ?_; refine M0 (q_neqK rfl rfl rfl rfl (by assumption)) rfl rfl ?_
    refine L_nil ?_; refine T_n ?_; refine A_ifF rfl ?_; refine A_skip ?_; refine T_n ?_; refine A_seq ?_; refine A_seq ?_; refine A_region ?_
    refine M0 (q_fldp rfl rfl rfl rfl (by decide)) rfl rfl ?_; refine M0 (q_ld1 rfl rfl rfl rfl rfl) rfl rfl ?_; refine M0 (q_fldp rfl rfl rfl rfl (by decide)) rfl rfl ?_
    refine M0 (q_ld1 rfl rfl rfl rfl rfl) rfl rfl ?_; refine M0 (q_neqK rfl rfl rfl rfl (by assumption)) rfl rfl ?_; refine L_nil ?_; refine T_n ?_; refine A_ifF rfl ?_; refine A_skip ?_
    refine T_n ?_; refine A_seq ?_; refine A_seq ?_; refine A_region ?_; refine M0 (q_fldp rfl rfl rfl rfl (by decide)) rfl rfl ?_; refine M0 (q_ld1 rfl rfl rfl rfl rfl) rfl rfl ?_
    refine M0 (q_fldp rfl rfl rfl rfl (by decide)) rfl rfl ?_; refine M0 (q_ld1 rfl rfl rfl rfl rfl) rfl rfl ?_; refine M0 (q_neqK rfl rfl rfl rfl (by assumption)) rfl rfl ?_
    refine L_nil ?_; refine T_n ?_; refine A_ifT rfl ?_; refine A_seq ?_; refine A_region ?_; refine M0 (q_assignC rfl rfl rfl) rfl rfl ?_; refine L_nil ?_; refine T_n ?_; refine A_ret ?_; refine T_r ?_
    refine F_r ?_
    exact E_tmp rfl rfl (W_end [] (by decide) rfl rfl (B_eq (decide_eq_false fun e => e_Samples (by rw [e])).symm))
  have e_Samples := Classical.not_not.1 e_Samples
  have k_Samples : decide (x.Samples ≠ y.Samples) = false := by simp [e_Samples]
  refine Con.of Try.func132 rfl Try.ntmps132 rfl (fun E => ?_)
  refine A_seq ?_; refine A_region ?_; refine M1 (q_boxN rfl rfl rfl rfl) rfl rfl ?_; refine M1 (q_boxN rfl rfl rfl rfl) rfl rfl ?_; refine M0 (q_assignC rfl rfl rfl) rfl rfl ?_
  refine L_nil ?_; refine T_n ?_; refine A_seq ?_; refine A_seq ?_; refine A_region ?_; refine M0 (q_fldp rfl rfl rfl rfl (by decide)) rfl rfl ?_
  refine M0 (q_ld1 rfl rfl rfl rfl rfl) rfl rfl ?_; refine M0 (q_fldp rfl rfl rfl rfl (by decide)) rfl rfl ?_; refine M0 (q_ld1 rfl rfl rfl rfl rfl) rfl rfl ?_
  refine M0 (q_neqK rfl rfl rfl rfl (by assumption)) rfl rfl ?_; refine L_nil ?_; refine T_n ?_; refine A_ifF rfl ?_; refine A_skip ?_; refine T_n ?_; refine A_seq ?_; refine A_seq ?_
  refine A_region ?_; refine M0 (q_fldp rfl rfl rfl rfl (by decide)) rfl rfl ?_; refine M0 (q_ld1 rfl rfl rfl rfl rfl) rfl rfl ?_; refine M0 (q_fldp rfl rfl rfl rfl (by decide)) rfl rfl ?_
  refine M0 (q_ld1 rfl rfl rfl rfl rfl) rfl rfl ?_; refine M0 (q_neqK rfl rfl rfl rfl (by assumption)) rfl rfl ?_; refine L_nil ?_; refine T_n ?_; refine A_ifF rfl ?_; refine A_skip ?_
  refine T_n ?_; refine A_seq ?_; refine A_seq ?_; refine A_region ?_; refine M0 (q_fldp rfl rfl rfl rfl (by decide)) rfl rfl ?_; refine M0 (q_ld1 rfl rfl rfl rfl rfl) rfl rfl ?_
  refine M0 (q_fldp rfl rfl rfl rfl (by decide)) rfl rfl ?_; refine M0 (q_ld1 rfl rfl rfl rfl rfl) rfl rfl ?_; refine M0 (q_neqK rfl rfl rfl rfl (by assumption)) rfl rfl ?_
  refine L_nil ?_; refine T_n ?_; refine A_ifF rfl ?_; refine A_skip ?_; refine T_n ?_; refine A_seq ?_; refine A_seq ?_; refine A_region ?_
  refine M0 (q_fldp rfl rfl rfl rfl (by decide)) rfl rfl ?_; refine M0 (q_ld1 rfl rfl rfl rfl rfl) rfl rfl ?_; refine M0 (q_fldp rfl rfl rfl rfl (by decide)) rfl rfl ?_
  refine M0 (q_ld1 rfl rfl rfl rfl rfl) rfl rfl ?_; refine M0 (q_neqK rfl rfl rfl rfl (by assumption)) rfl rfl ?_; refine L_nil ?_; refine T_n ?_; refine A_ifF rfl ?_; refine A_skip ?_
  refine T_n ?_; refine A_seq ?_; refine A_seq ?_; refine A_region ?_; refine M0 (q_fldp rfl rfl rfl rfl (by decide)) rfl rfl ?_; refine M0 (q_ld1 rfl rfl rfl rfl rfl) rfl rfl ?_
  refine M0 (q_fldp rfl rfl rfl rfl (by decide)) rfl rfl ?_; refine M0 (q_ld1 rfl rfl rfl rfl rfl) rfl rfl ?_; refine M0 (q_neqK rfl rfl rfl rfl (by assumption)) rfl rfl ?_
  refine L_nil ?_; refine T_n ?_; refine A_ifF rfl ?_; refine A_skip ?_; refine T_n ?_; refine A_seq ?_; refine A_region ?_; refine M0 (q_assignC rfl rfl rfl) rfl rfl ?_; refine L_nil ?_
  refine T_n ?_; refine A_ret ?_; refine F_r ?_
  exact E_tmp rfl rfl (W_end [] (by decide) rfl rfl (B_eq (decide_eq_true (TPace.same e_Newest e_Their e_At e_Trip e_Samples)).symm))
set_option maxHeartbeats 2000000 in
theorem sz_Alarm (x : TAlarm) (left : Int) (hg : Enc.gd x) (h0 : 0 ≤ left) (h1 : left ≤ 1048576) : Con Try.prog 104 [] [ag x, ai left] [] (I (szr (Enc.wt x) left)) := by
  obtain ⟨g_Tick, g_Parts⟩ := hg
  have hw : Enc.wt x = Enc.wt x.Parts := rfl
  have hm1 : decide ((-1 : Int) < 0) = true := rfl
  have hc_Parts := sz_StringS x.Parts (left) g_Parts (by omega) (by omega)
  by_cases n_Parts : left < Enc.wt x.Parts
  · rw [szr_neg n_Parts] at hc_Parts
    refine Con.of Try.func104 rfl Try.ntmps104 rfl (fun E => ?_)
    refine A_seq ?_; refine A_region ?_; refine M1 (q_boxN rfl rfl rfl rfl) rfl rfl ?_; refine M0 (q_assignC rfl rfl rfl) rfl rfl ?_; refine L_nil ?_; refine T_n ?_; refine A_seq ?_
    refine A_region ?_; refine M0 (q_fldp rfl rfl rfl rfl (by decide)) rfl rfl ?_; refine M0 (q_ld1 rfl rfl rfl rfl rfl) rfl rfl ?_; refine M0 (q_moveC rfl rfl rfl) rfl rfl ?_
    refine M0 (q_call0 rfl rfl (hc_Parts) rfl) rfl rfl ?_; refine M0 (q_assignC rfl rfl rfl) rfl rfl ?_; refine L_nil ?_; refine T_n ?_; refine A_seq ?_; refine A_seq ?_; refine A_region ?_
    refine M0 (q_moveC rfl rfl rfl) rfl rfl ?_; refine M0 (q_lssK rfl rfl rfl rfl (by assumption)) rfl rfl ?_; refine L_nil ?_; refine T_n ?_; refine A_ifT rfl ?_; refine A_seq ?_
    refine A_region ?_; refine M0 (q_assignC rfl rfl rfl) rfl rfl ?_; refine L_nil ?_; refine T_n ?_; refine A_ret ?_; refine T_r ?_; refine F_r ?_
    exact E_tmp rfl rfl (W_end [] (by decide) rfl rfl (I_eq (by rw [szr_neg (by omega)])))
  rw [szr_pos (by omega)] at hc_Parts
  have hb_Parts : decide (left - Enc.wt x.Parts < 0) = false := decide_eq_false (by omega)
  refine Con.of Try.func104 rfl Try.ntmps104 rfl (fun E => ?_)
  refine A_seq ?_; refine A_region ?_; refine M1 (q_boxN rfl rfl rfl rfl) rfl rfl ?_; refine M0 (q_assignC rfl rfl rfl) rfl rfl ?_; refine L_nil ?_; refine T_n ?_; refine A_seq ?_
  refine A_region ?_; refine M0 (q_fldp rfl rfl rfl rfl (by decide)) rfl rfl ?_; refine M0 (q_ld1 rfl rfl rfl rfl rfl) rfl rfl ?_; refine M0 (q_moveC rfl rfl rfl) rfl rfl ?_
  refine M0 (q_call0 rfl rfl (hc_Parts) rfl) rfl rfl ?_; refine M0 (q_assignC rfl rfl rfl) rfl rfl ?_; refine L_nil ?_; refine T_n ?_; refine A_seq ?_; refine A_seq ?_; refine A_region ?_
  refine M0 (q_moveC rfl rfl rfl) rfl rfl ?_; refine M0 (q_lssK rfl rfl rfl rfl (by assumption)) rfl rfl ?_; refine L_nil ?_; refine T_n ?_; refine A_ifF rfl ?_; refine A_skip ?_; refine T_n ?_
  refine A_seq ?_; refine A_region ?_; refine M0 (q_moveC rfl rfl rfl) rfl rfl ?_; refine M0 (q_assignC rfl rfl rfl) rfl rfl ?_; refine L_nil ?_; refine T_n ?_; refine A_ret ?_; refine F_r ?_
  exact E_tmp rfl rfl (W_end [] (by decide) rfl rfl (I_eq (by rw [szr_pos (by omega)]; omega)))
set_option maxHeartbeats 2000000 in
theorem to_Alarm (x : TAlarm) (hg : Enc.wt x ≤ 1048576) : Con Try.prog 109 [] [ag x] (ownO (Enc.e x)) (.o (.ag (ownV 0 (Enc.e x)))) := by
  have hw : Enc.wt x = Enc.wt x.Parts := rfl
  refine Con.of Try.func109 rfl Try.ntmps109 rfl (fun E => ?_)
  refine A_seq ?_; refine A_region ?_; refine M1 (q_boxN rfl rfl rfl rfl) rfl rfl ?_; refine M1 (q_alloc rfl rfl rfl) rfl rfl ?_; refine L_nil ?_; refine T_n ?_; refine A_seq ?_
  refine A_region ?_; refine M1 (q_alloc rfl rfl rfl) rfl rfl ?_; refine L_nil ?_; refine T_n ?_; refine A_seq ?_; refine A_region ?_; refine M0 (q_fldp rfl rfl rfl rfl (by decide)) rfl rfl ?_
  refine M0 (q_ld1 rfl rfl rfl rfl rfl) rfl rfl ?_; refine M0 (q_fldp rfl rfl rfl rfl (by decide)) rfl rfl ?_; refine M_st1 rfl rfl rfl rfl rfl rfl rfl rfl ?_; refine L_nil ?_; refine T_n ?_
  refine A_seq ?_; refine A_region ?_; refine M0 (q_fldp rfl rfl rfl rfl (by decide)) rfl rfl ?_; refine M0 (q_ld1 rfl rfl rfl rfl rfl) rfl rfl ?_
  refine M1 (q_call rfl rfl (to_StringS x.Parts (by omega)) rfl rfl rfl) rfl rfl ?_; refine M0 (q_fldp rfl rfl rfl rfl (by decide)) rfl rfl ?_
  refine M_st1 rfl rfl rfl rfl rfl rfl rfl rfl ?_; refine L_nil ?_; refine T_n ?_; refine A_seq ?_; refine A_region ?_; refine M0 (q_ldN rfl rfl rfl rfl rfl rfl) rfl rfl ?_
  refine M_stN rfl rfl rfl rfl rfl rfl rfl rfl rfl ?_; refine L_nil ?_; refine T_n ?_; refine A_ret ?_; refine F_r ?_
  exact E_cell rfl rfl rfl rfl (W_end [3] (by decide) rfl rfl rfl)
set_option maxHeartbeats 2000000 in
theorem eq_Alarm (x y : TAlarm) (hg : Enc.gd x) : Con Try.prog 115 [] [ag x, ag y] [] (B (decide (x = y))) := by
  obtain ⟨g_Tick, g_Parts⟩ := hg
  by_cases e_Tick : ¬ x.Tick = y.Tick
  · have hk : decide (x.Tick ≠ y.Tick) = true := by simp [e_Tick]
    refine Con.of Try.func115 rfl Try.ntmps115 rfl (fun E => ?_)
    refine A_seq ?_; refine A_region ?_; refine M1 (q_boxN rfl rfl rfl rfl) rfl rfl ?_; refine M1 (q_boxN rfl rfl rfl rfl) rfl rfl ?_; refine M0 (q_assignC rfl rfl rfl) rfl rfl ?_
    refine L_nil ?_; refine T_n ?_; refine A_seq ?_; refine A_seq ?_; refine A_region ?_; refine M0 (q_fldp rfl rfl rfl rfl (by decide)) rfl rfl ?_
    refine M0 (q_ld1 rfl rfl rfl rfl rfl) rfl rfl ?_; refine M0 (q_fldp rfl rfl rfl rfl (by decide)) rfl rfl ?_; refine M0 (q_ld1 rfl rfl rfl rfl rfl) rfl rfl ?_
    refine M0 (q_neqK rfl rfl rfl rfl (by assumption)) rfl rfl ?_; refine L_nil ?_; refine T_n ?_; refine A_ifT rfl ?_; refine A_seq ?_; refine A_region ?_
    refine M0 (q_assignC rfl rfl rfl) rfl rfl ?_; refine L_nil ?_; refine T_n ?_; refine A_ret ?_; refine T_r ?_; refine F_r ?_
    exact E_tmp rfl rfl (W_end [] (by decide) rfl rfl (B_eq (decide_eq_false fun e => e_Tick (by rw [e])).symm))
  have e_Tick := Classical.not_not.1 e_Tick
  have k_Tick : decide (x.Tick ≠ y.Tick) = false := by simp [e_Tick]
  by_cases e_Parts : ¬ x.Parts = y.Parts
  · have hc := eq_StringS x.Parts y.Parts g_Parts
    rw [decide_eq_false e_Parts] at hc
    refine Con.of Try.func115 rfl Try.ntmps115 rfl (fun E => ?_)
    refine A_seq ?_; refine A_region ?_; refine M1 (q_boxN rfl rfl rfl rfl) rfl rfl ?_; refine M1 (q_boxN rfl rfl rfl rfl) rfl rfl ?_; refine M0 (q_assignC rfl rfl rfl) rfl rfl ?_
    refine L_nil ?_; refine T_n ?_; refine A_seq ?_; refine A_seq ?_; refine A_region ?_; refine M0 (q_fldp rfl rfl rfl rfl (by decide)) rfl rfl ?_
    refine M0 (q_ld1 rfl rfl rfl rfl rfl) rfl rfl ?_; refine M0 (q_fldp rfl rfl rfl rfl (by decide)) rfl rfl ?_; refine M0 (q_ld1 rfl rfl rfl rfl rfl) rfl rfl ?_
    refine M0 (q_neqK rfl rfl rfl rfl (by assumption)) rfl rfl ?_; refine L_nil ?_; refine T_n ?_; refine A_ifF rfl ?_; refine A_skip ?_; refine T_n ?_; refine A_seq ?_; refine A_seq ?_
    refine A_region ?_; refine M0 (q_fldp rfl rfl rfl rfl (by decide)) rfl rfl ?_; refine M0 (q_ld1 rfl rfl rfl rfl rfl) rfl rfl ?_; refine M0 (q_fldp rfl rfl rfl rfl (by decide)) rfl rfl ?_
    refine M0 (q_ld1 rfl rfl rfl rfl rfl) rfl rfl ?_; refine M0 (q_call0 rfl rfl (hc) rfl) rfl rfl ?_; refine M0 (q_not rfl rfl rfl) rfl rfl ?_; refine L_nil ?_; refine T_n ?_
    refine A_ifT rfl ?_; refine A_seq ?_; refine A_region ?_; refine M0 (q_assignC rfl rfl rfl) rfl rfl ?_; refine L_nil ?_; refine T_n ?_; refine A_ret ?_; refine T_r ?_; refine F_r ?_
    exact E_tmp rfl rfl (W_end [] (by decide) rfl rfl (B_eq (decide_eq_false fun e => e_Parts (by rw [e])).symm))
  have e_Parts := Classical.not_not.1 e_Parts
  have hc_Parts := eq_StringS x.Parts y.Parts g_Parts
  rw [decide_eq_true e_Parts] at hc_Parts
  refine Con.of Try.func115 rfl Try.ntmps115 rfl (fun E => ?_)
  refine A_seq ?_; refine A_region ?_; refine M1 (q_boxN rfl rfl rfl rfl) rfl rfl ?_; refine M1 (q_boxN rfl rfl rfl rfl) rfl rfl ?_; refine M0 (q_assignC rfl rfl rfl) rfl rfl ?_
  refine L_nil ?_; refine T_n ?_; refine A_seq ?_; refine A_seq ?_; refine A_region ?_; refine M0 (q_fldp rfl rfl rfl rfl (by decide)) rfl rfl ?_
  refine M0 (q_ld1 rfl rfl rfl rfl rfl) rfl rfl ?_; refine M0 (q_fldp rfl rfl rfl rfl (by decide)) rfl rfl ?_; refine M0 (q_ld1 rfl rfl rfl rfl rfl) rfl rfl ?_
  refine M0 (q_neqK rfl rfl rfl rfl (by assumption)) rfl rfl ?_; refine L_nil ?_; refine T_n ?_; refine A_ifF rfl ?_; refine A_skip ?_; refine T_n ?_; refine A_seq ?_; refine A_seq ?_
  refine A_region ?_; refine M0 (q_fldp rfl rfl rfl rfl (by decide)) rfl rfl ?_; refine M0 (q_ld1 rfl rfl rfl rfl rfl) rfl rfl ?_; refine M0 (q_fldp rfl rfl rfl rfl (by decide)) rfl rfl ?_
  refine M0 (q_ld1 rfl rfl rfl rfl rfl) rfl rfl ?_; refine M0 (q_call0 rfl rfl (hc_Parts) rfl) rfl rfl ?_; refine M0 (q_not rfl rfl rfl) rfl rfl ?_; refine L_nil ?_; refine T_n ?_
  refine A_ifF rfl ?_; refine A_skip ?_; refine T_n ?_; refine A_seq ?_; refine A_region ?_; refine M0 (q_assignC rfl rfl rfl) rfl rfl ?_; refine L_nil ?_; refine T_n ?_; refine A_ret ?_
  refine F_r ?_
  exact E_tmp rfl rfl (W_end [] (by decide) rfl rfl (B_eq (decide_eq_true (TAlarm.same e_Tick e_Parts)).symm))
end Go.Proofs.Ytbpebmolbdplmaa
end

section
set_option linter.unusedSimpArgs false
set_option linter.unusedVariables false
namespace Go.Proofs.Ytbpebmolbdplmaa
open Go.RowKit

def inR (n lo hi : Int) : Bool := decide (lo ≤ n) && decide (n ≤ hi)
theorem inR_iff {n lo hi : Int} : inR n lo hi = true ↔ lo ≤ n ∧ n ≤ hi := by simp [inR]
set_option maxHeartbeats 8000000 in
theorem I_between (n lo hi : Int) : Con Try.prog 89 [] [ai n, ai lo, ai hi] [] (B (inR n lo hi)) := by
  refine Con.of Try.func89 rfl Try.ntmps89 rfl (fun E => ?_)
  refine A_seq ?_; refine A_region ?_; refine M0 (q_assignC rfl rfl rfl) rfl rfl ?_; refine L_nil ?_; refine T_n ?_; refine A_seq ?_; refine A_region ?_; refine M0 (q_moveC rfl rfl rfl) rfl rfl ?_
  refine M0 (q_moveC rfl rfl rfl) rfl rfl ?_; refine M0 (q_geq rfl rfl rfl rfl) rfl rfl ?_; refine M0 (q_moveC rfl rfl rfl) rfl rfl ?_
  refine M0 (Qt.grdT rfl rfl rfl .stop (fun hgrd => q_moveC rfl rfl rfl)) rfl rfl ?_; refine M0 (Qt.grdT rfl rfl rfl (.hit .stop) (fun hgrd => q_moveC rfl rfl rfl)) rfl rfl ?_
  refine M0 (Qt.grdT rfl rfl rfl (.hit (.hit .stop)) (fun hgrd => q_leq rfl rfl rfl rfl)) rfl rfl ?_; refine M0 (q_and rfl rfl rfl rfl) rfl rfl ?_
  refine M0 (q_assignC rfl rfl rfl) rfl rfl ?_; refine L_nil ?_; refine T_n ?_; refine A_ret ?_; refine F_r ?_
  exact E_tmp rfl rfl (W_end [] (by decide) rfl rfl rfl)
set_option maxHeartbeats 8000000 in
theorem S_in (n lo hi : Int) : Con Try.prog 79 [] [ai n, ai lo, ai hi] [] (B (inR n lo hi)) := by
  refine Con.of Try.func79 rfl Try.ntmps79 rfl (fun E => ?_)
  refine A_seq ?_; refine A_region ?_; refine M0 (q_assignC rfl rfl rfl) rfl rfl ?_; refine L_nil ?_; refine T_n ?_; refine A_seq ?_; refine A_region ?_; refine M0 (q_moveC rfl rfl rfl) rfl rfl ?_
  refine M0 (q_moveC rfl rfl rfl) rfl rfl ?_; refine M0 (q_geq rfl rfl rfl rfl) rfl rfl ?_; refine M0 (q_moveC rfl rfl rfl) rfl rfl ?_
  refine M0 (Qt.grdT rfl rfl rfl .stop (fun hgrd => q_moveC rfl rfl rfl)) rfl rfl ?_; refine M0 (Qt.grdT rfl rfl rfl (.hit .stop) (fun hgrd => q_moveC rfl rfl rfl)) rfl rfl ?_
  refine M0 (Qt.grdT rfl rfl rfl (.hit (.hit .stop)) (fun hgrd => q_leq rfl rfl rfl rfl)) rfl rfl ?_; refine M0 (q_and rfl rfl rfl rfl) rfl rfl ?_
  refine M0 (q_assignC rfl rfl rfl) rfl rfl ?_; refine L_nil ?_; refine T_n ?_; refine A_ret ?_; refine F_r ?_
  exact E_tmp rfl rfl (W_end [] (by decide) rfl rfl rfl)

section
variable {α : Type} {p : α → Bool} {xs : List α} {k : Nat}
theorem all_next (h : (xs.take k).all p = true) (hk : k < xs.length) (hp : p xs[k] = true) : (xs.take (k + 1)).all p = true := by
  rw [List.take_succ_eq_append_getElem hk, List.all_append, h]
  simp [hp]
theorem all_no (hk : k < xs.length) (hp : p xs[k] = false) : xs.all p = false := by
  rw [List.all_eq_false]
  exact ⟨_, List.getElem_mem hk, by simp [hp]⟩
theorem all_end (h : (xs.take k).all p = true) (hk : xs.length ≤ k) : xs.all p = true := by rwa [List.take_of_length_le hk] at h
end
def inOk (xs : List Int) : Bool := xs.all fun n => inR n 0 15
set_option maxHeartbeats 8000000 in
theorem I_inputsOk (xs : List Int) (hn : Enc.gd xs) : Con Try.prog 96 [] [al xs] [] (B (inOk xs)) := by
  have hn1 := hn.1
  have hlx := els_len xs
  refine Con.of Try.func96 rfl Try.ntmps96 rfl (fun E => ?_)
  refine A_seq ?_; refine A_region ?_; refine M0 (q_assignC rfl rfl rfl) rfl rfl ?_; refine L_nil ?_; refine T_n ?_; refine A_seq ?_; refine A_seq ?_; refine A_region ?_
  refine M0 (q_moveC rfl rfl rfl) rfl rfl ?_; refine M0 (q_len rfl rfl rfl) rfl rfl ?_; refine M0 (q_moveC rfl rfl rfl) rfl rfl ?_; refine L_nil ?_; refine T_n ?_; refine A_block ?_
  refine A_loop (fun m st => ∃ k : Nat, k + m = xs.length ∧ ((xs.take k).all (fun n => inR n 0 15) = true) ∧ st = (fun k : Nat => (⟨_, [(5, L xs), (6, I (els xs).length), (7, I k)], []⟩ : St)) k) (xs.length) ⟨(fun k : Nat => (⟨_, [(5, L xs), (6, I (els xs).length), (7, I k)], []⟩ : St)) 0, W_go [] (by decide) rfl (rfl) (.cons rfl (.cons rfl (.cons rfl (.nil)))), 0, by omega, by simp, rfl⟩ ?_
  rintro m_A _ ⟨k, hk_A, hp_A, rfl⟩
  refine A_seq ?_; refine A_region ?_; refine M0 (q_lss rfl rfl rfl rfl) rfl rfl ?_; refine L_nil ?_; refine T_n ?_; refine A_seq ?_
  refine A_cond rfl (fun h => ?_) (fun h => ?_)
  · have h3 : k < xs.length := by have := of_decide_eq_true h; omega
    have hat := els_at h3
    refine A_skip ?_; refine T_n ?_; refine A_seq ?_; refine A_block ?_; refine A_seq ?_; refine A_region ?_; refine M0 (q_at rfl rfl rfl rfl (by omega) (by assumption) rfl) rfl rfl ?_
    refine M0 (q_lr1 rfl rfl rfl rfl) rfl rfl ?_; refine M0 (q_assignC rfl rfl rfl) rfl rfl ?_; refine L_nil ?_; refine T_n ?_; refine A_seq ?_; refine A_region ?_
    refine M0 (q_moveC rfl rfl rfl) rfl rfl ?_; refine M0 (q_call0 rfl rfl (I_between xs[k] 0 15) rfl) rfl rfl ?_; refine M0 (q_not rfl rfl rfl) rfl rfl ?_; refine L_nil ?_; refine T_n ?_
    refine A_cond rfl (fun h4 => ?_) (fun h4 => ?_)
    · refine A_seq ?_; refine A_region ?_; refine M0 (q_assignC rfl rfl rfl) rfl rfl ?_; refine L_nil ?_; refine T_n ?_; refine A_ret ?_; refine B_r ?_; refine T_r ?_; refine T_r ?_; refine B_r ?_
      refine T_r ?_; refine F_r ?_
      exact E_tmp rfl rfl (W_end [] (by decide) rfl rfl (B_eq (all_no h3 (by simpa using h4)).symm))
    · refine A_skip ?_; refine B_n ?_; refine T_n ?_; refine A_region ?_; refine M0 (q_add rfl rfl rfl rfl (by omega)) rfl rfl ?_; refine M0 (q_moveC rfl rfl rfl) rfl rfl ?_; refine L_nil ?_
      refine T_n ?_
      exact ⟨xs.length - (k + 1), by omega, (fun k : Nat => (⟨_, [(5, L xs), (6, I (els xs).length), (7, I k)], []⟩ : St)) (k + 1), W_go [] (by decide) rfl (rfl) (.cons rfl (.cons rfl (.cons rfl (.nil)))), k + 1, by omega, all_next hp_A h3 (by simpa using h4), rfl⟩
  · have h3 : ¬ ((k : Int) < (els xs).length) := of_decide_eq_false h
    refine A_exit ?_; refine T_x ?_; refine T_x ?_; refine B_xs ?_; refine T_n ?_; refine A_seq ?_; refine A_region ?_; refine M0 (q_assignC rfl rfl rfl) rfl rfl ?_; refine L_nil ?_; refine T_n ?_
    refine A_ret ?_; refine F_r ?_
    exact E_tmp rfl rfl (W_end [] (by decide) rfl rfl (B_eq (all_end hp_A (by omega)).symm))
end Go.Proofs.Ytbpebmolbdplmaa
end

section
set_option linter.unusedSimpArgs false
set_option linter.unusedVariables false
set_option maxRecDepth 8000
namespace Go.Proofs.Ytbpebmolbdplmaa
open Go.RowKit

end Go.Proofs.Ytbpebmolbdplmaa
end

section
set_option linter.unusedSimpArgs false
set_option linter.unusedVariables false
namespace Go.Proofs.Ytbpebmolbdplmaa
open Go.RowKit

set_option maxHeartbeats 8000000 in
theorem S_inputsOk (xs : List Int) (hn : Enc.gd xs) : Con Try.prog 95 [] [al xs] [] (B (inOk xs)) := by
  have hn1 := hn.1
  have hlx := els_len xs
  refine Con.of Try.func95 rfl Try.ntmps95 rfl (fun E => ?_)
  refine A_seq ?_; refine A_region ?_; refine M0 (q_assignC rfl rfl rfl) rfl rfl ?_; refine L_nil ?_; refine T_n ?_; refine A_seq ?_; refine A_seq ?_; refine A_region ?_
  refine M0 (q_assignC rfl rfl rfl) rfl rfl ?_; refine L_nil ?_; refine T_n ?_; refine A_block ?_
  refine A_loop (fun m st => ∃ k : Nat, k + m = xs.length ∧ ((xs.take k).all (fun n => inR n 0 15) = true) ∧ st = (fun k : Nat => (⟨_, [(0, L xs), (3, I k)], []⟩ : St)) k) (xs.length) ⟨(fun k : Nat => (⟨_, [(0, L xs), (3, I k)], []⟩ : St)) 0, W_go [] (by decide) rfl (rfl) (.cons rfl (.cons rfl (.nil))), 0, by omega, by simp, rfl⟩ ?_
  rintro m_A _ ⟨k, hk_A, hp_A, rfl⟩
  refine A_seq ?_; refine A_seq ?_; refine A_region ?_; refine M0 (q_moveC rfl rfl rfl) rfl rfl ?_; refine M0 (q_moveC rfl rfl rfl) rfl rfl ?_; refine M0 (q_len rfl rfl rfl) rfl rfl ?_
  refine M0 (q_lss rfl rfl rfl rfl) rfl rfl ?_; refine L_nil ?_; refine T_n ?_
  refine A_cond rfl (fun h => ?_) (fun h => ?_)
  · have h3 : k < xs.length := by have := of_decide_eq_true h; omega
    have hat := els_at h3
    refine A_skip ?_; refine T_n ?_; refine A_seq ?_; refine A_block ?_; refine A_seq ?_; refine A_region ?_; refine M0 (q_moveC rfl rfl rfl) rfl rfl ?_; refine M0 (q_moveC rfl rfl rfl) rfl rfl ?_
    refine M0 (q_at rfl rfl rfl rfl (by omega) (by assumption) rfl) rfl rfl ?_; refine M0 (q_lr1 rfl rfl rfl rfl) rfl rfl ?_; refine M0 (q_call0 rfl rfl (S_in xs[k] 0 15) rfl) rfl rfl ?_
    refine M0 (q_not rfl rfl rfl) rfl rfl ?_; refine L_nil ?_; refine T_n ?_
    refine A_cond rfl (fun h4 => ?_) (fun h4 => ?_)
    · refine A_seq ?_; refine A_region ?_; refine M0 (q_assignC rfl rfl rfl) rfl rfl ?_; refine L_nil ?_; refine T_n ?_; refine A_ret ?_; refine B_r ?_; refine T_r ?_; refine T_r ?_; refine B_r ?_
      refine T_r ?_; refine F_r ?_
      exact E_tmp rfl rfl (W_end [] (by decide) rfl rfl (B_eq (all_no h3 (by simpa using h4)).symm))
    · refine A_skip ?_; refine B_n ?_; refine T_n ?_; refine A_region ?_; refine M0 (q_moveC rfl rfl rfl) rfl rfl ?_; refine M0 (q_add rfl rfl rfl rfl (by omega)) rfl rfl ?_
      refine M0 (q_assignC rfl rfl rfl) rfl rfl ?_; refine L_nil ?_; refine T_n ?_
      exact ⟨xs.length - (k + 1), by omega, (fun k : Nat => (⟨_, [(0, L xs), (3, I k)], []⟩ : St)) (k + 1), W_go [] (by decide) rfl (rfl) (.cons rfl (.cons rfl (.nil))), k + 1, by omega, all_next hp_A h3 (by simpa using h4), rfl⟩
  · have h3 : ¬ ((k : Int) < (els xs).length) := of_decide_eq_false h
    refine A_exit ?_; refine T_x ?_; refine T_x ?_; refine B_xs ?_; refine T_n ?_; refine A_seq ?_; refine A_region ?_; refine M0 (q_assignC rfl rfl rfl) rfl rfl ?_; refine L_nil ?_; refine T_n ?_
    refine A_ret ?_; refine F_r ?_
    exact E_tmp rfl rfl (W_end [] (by decide) rfl rfl (B_eq (all_end hp_A (by omega)).symm))
end Go.Proofs.Ytbpebmolbdplmaa
end

section
set_option linter.unusedSimpArgs false
set_option linter.unusedVariables false
set_option maxRecDepth 8000
namespace Go.Proofs.Ytbpebmolbdplmaa
open Go.RowKit

def scriptOk (xs : List Int) : Bool := (decide (1 ≤ xs.length) && decide (xs.length ≤ 400)) && inOk xs
def scriptIn (xs : List Int) (d t : Int) : Int := if (scriptOk xs = true ∧ inR d 0 5 = true) ∧ 0 ≤ t then (if t < d then 0 else xs.getD ((t - d) % (xs.length : Int)).toNat 0) else -1
theorem script_len {xs : List Int} (h : scriptOk xs = true) : 1 ≤ xs.length ∧ xs.length ≤ 400 := by
  unfold scriptOk at h
  simp only [Bool.and_eq_true, decide_eq_true_eq] at h
  exact h.1
theorem script_at {xs : List Int} {d t : Int} (h : scriptOk xs = true) (hd : inR d 0 5 = true) (h0 : 0 ≤ t) (h1 : ¬ t < d) : ∃ hi : ((t - d) % (xs.length : Int)).toNat < xs.length, 0 ≤ (t - d) % (xs.length : Int) ∧ (t - d) % (xs.length : Int) < xs.length ∧ scriptIn xs d t = xs[((t - d) % (xs.length : Int)).toNat] := by
  have hl := script_len h
  have h2 : 0 ≤ (t - d) % (xs.length : Int) := Int.emod_nonneg _ (by omega)
  have h3 : (t - d) % (xs.length : Int) < xs.length := Int.emod_lt_of_pos _ (by omega)
  have hi : ((t - d) % (xs.length : Int)).toNat < xs.length := by omega
  refine ⟨hi, h2, h3, ?_⟩
  rw [scriptIn, if_pos ⟨⟨h, hd⟩, h0⟩, if_neg h1, List.getD_eq_getElem?_getD, List.getElem?_eq_getElem hi]
  rfl
theorem script_inR {xs : List Int} {n : Nat} (h : n = xs.length) : inR (n : Int) 1 400 = (decide (1 ≤ xs.length) && decide (xs.length ≤ 400)) := by
  subst h
  unfold inR
  congr 1 <;> rw [decide_eq_decide] <;> omega
theorem script_no {xs : List Int} {d t : Int} (h : ¬ ((scriptOk xs = true ∧ inR d 0 5 = true) ∧ 0 ≤ t)) : scriptIn xs d t = -1 := if_neg h
theorem script_lo {xs : List Int} {d t : Int} (h : scriptOk xs = true) (hd : inR d 0 5 = true) (h0 : 0 ≤ t) (h1 : t < d) : scriptIn xs d t = 0 := by rw [scriptIn, if_pos ⟨⟨h, hd⟩, h0⟩, if_pos h1]
set_option maxHeartbeats 8000000 in
theorem I_scriptOk (xs : List Int) (hn : Enc.gd xs) : Con Try.prog 110 [] [al xs] [] (B (scriptOk xs)) := by
  have hl := els_len xs
  refine Con.of Try.func110 rfl Try.ntmps110 rfl (fun E => ?_)
  refine A_seq ?_; refine A_region ?_; refine M0 (q_assignC rfl rfl rfl) rfl rfl ?_; refine L_nil ?_; refine T_n ?_; refine A_seq ?_; refine A_region ?_; refine M0 (q_moveC rfl rfl rfl) rfl rfl ?_
  refine M0 (q_len rfl rfl rfl) rfl rfl ?_; refine M0 (q_geq rfl rfl rfl rfl) rfl rfl ?_; refine M0 (q_moveC rfl rfl rfl) rfl rfl ?_
  refine M0 (Qt.grdT rfl rfl rfl .stop (fun hgrd => q_moveC rfl rfl rfl)) rfl rfl ?_; refine M0 (Qt.grdT rfl rfl rfl (.hit .stop) (fun hgrd => q_len rfl rfl rfl)) rfl rfl ?_
  refine M0 (Qt.grdT rfl rfl rfl (.hit (.hit .stop)) (fun hgrd => q_leq rfl rfl rfl rfl)) rfl rfl ?_; refine M0 (q_and rfl rfl rfl rfl) rfl rfl ?_
  refine M0 (q_moveC rfl rfl rfl) rfl rfl ?_; refine M0 (Qt.grdT rfl rfl rfl .stop (fun hgrd => q_moveC rfl rfl rfl)) rfl rfl ?_
  refine M0 (Qt.grdT rfl rfl rfl (.hit .stop) (fun hgrd => q_call0 rfl rfl (I_inputsOk xs hn) rfl)) rfl rfl ?_; refine M0 (q_and rfl rfl rfl rfl) rfl rfl ?_
  refine M0 (q_assignC rfl rfl rfl) rfl rfl ?_; refine L_nil ?_; refine T_n ?_; refine A_ret ?_; refine F_r ?_
  exact E_tmp rfl rfl (W_end [] (by decide) rfl rfl (B_eq (by rw [hl, scriptOk]; congr 2 <;> simp <;> omega)))
set_option maxHeartbeats 8000000 in
theorem I_ScriptInput (xs : List Int) (d t : Int) (hn : Enc.gd xs) (ht : I64 t) : Con Try.prog 64 [] [al xs, ai d, ai t] [] (I (scriptIn xs d t)) := by
  have hl := els_len xs
  have hx := hn.1
  obtain ⟨ht1, ht2⟩ := ht
  refine Con.of Try.func64 rfl Try.ntmps64 rfl (fun E => ?_)
  refine A_seq ?_; refine A_region ?_; refine M0 (q_assignC rfl rfl rfl) rfl rfl ?_; refine L_nil ?_; refine T_n ?_; refine A_seq ?_; refine A_seq ?_; refine A_region ?_
  refine M0 (q_moveC rfl rfl rfl) rfl rfl ?_; refine M0 (q_call0 rfl rfl (I_scriptOk xs hn) rfl) rfl rfl ?_; refine M0 (q_not rfl rfl rfl) rfl rfl ?_
  refine M0 (q_moveC rfl rfl rfl) rfl rfl ?_; refine M0 (Qt.grdF rfl rfl rfl .stop (fun hgrd => q_moveC rfl rfl rfl)) rfl rfl ?_
  refine M0 (Qt.grdF rfl rfl rfl (.hit .stop) (fun hgrd => q_call0 rfl rfl (I_between d 0 5) rfl)) rfl rfl ?_
  refine M0 (Qt.grdF rfl rfl rfl (.hit (.hit .stop)) (fun hgrd => q_not rfl rfl rfl)) rfl rfl ?_; refine M0 (q_or rfl rfl rfl rfl) rfl rfl ?_; refine M0 (q_moveC rfl rfl rfl) rfl rfl ?_
  refine M0 (Qt.grdF rfl rfl rfl .stop (fun hgrd => q_moveC rfl rfl rfl)) rfl rfl ?_; refine M0 (Qt.grdF rfl rfl rfl (.hit .stop) (fun hgrd => q_lss rfl rfl rfl rfl)) rfl rfl ?_
  refine M0 (q_or rfl rfl rfl rfl) rfl rfl ?_; refine L_nil ?_; refine T_n ?_
  refine A_cond rfl (fun h => ?_) (fun h => ?_)
  · rw [script_no (fun ⟨⟨q1, q2⟩, q3⟩ => by rw [q1, q2] at h; simp at h; omega)]
    refine A_seq ?_; refine A_region ?_; refine M0 (q_assignC rfl rfl rfl) rfl rfl ?_; refine L_nil ?_; refine T_n ?_; refine A_ret ?_; refine T_r ?_; refine F_r ?_
    exact E_tmp rfl rfl (W_end [] (by decide) rfl rfl rfl)
  simp only [Bool.or_eq_false_iff, Bool.not_eq_false', decide_eq_false_iff_not] at h
  obtain ⟨⟨q1, q2⟩, q3⟩ := h
  have hsl := script_len q1
  have hd := inR_iff.1 q2
  refine A_skip ?_; refine T_n ?_; refine A_seq ?_; refine A_seq ?_; refine A_region ?_; refine M0 (q_moveC rfl rfl rfl) rfl rfl ?_; refine M0 (q_moveC rfl rfl rfl) rfl rfl ?_
  refine M0 (q_lss rfl rfl rfl rfl) rfl rfl ?_; refine L_nil ?_; refine T_n ?_
  refine A_cond rfl (fun h => ?_) (fun h => ?_)
  · rw [script_lo q1 q2 (by omega) (of_decide_eq_true h)]
    refine A_seq ?_; refine A_region ?_; refine M0 (q_assignC rfl rfl rfl) rfl rfl ?_; refine L_nil ?_; refine T_n ?_; refine A_ret ?_; refine T_r ?_; refine F_r ?_
    exact E_tmp rfl rfl (W_end [] (by decide) rfl rfl rfl)
  have h9 := of_decide_eq_false h
  obtain ⟨hi, h2, h3, h4⟩ := script_at q1 q2 (by omega) (of_decide_eq_false h)
  have hat : (els xs)[((t - d) % ((els xs).length : Int)).toNat]? = some (Enc.e xs[((t - d) % (xs.length : Int)).toNat]) := by rw [hl]; simp [els, hi]
  have h5 : 0 ≤ (t - d) % ((els xs).length : Int) ∧ (t - d) % ((els xs).length : Int) < ((els xs).length : Int) := by rw [hl]; exact ⟨h2, h3⟩
  rw [h4]
  refine A_skip ?_; refine T_n ?_; refine A_seq ?_; refine A_region ?_; refine M0 (q_moveC rfl rfl rfl) rfl rfl ?_; refine M0 (q_moveC rfl rfl rfl) rfl rfl ?_
  refine M0 (q_moveC rfl rfl rfl) rfl rfl ?_; refine M0 (q_sub rfl rfl rfl rfl (by omega)) rfl rfl ?_; refine M0 (q_moveC rfl rfl rfl) rfl rfl ?_; refine M0 (q_len rfl rfl rfl) rfl rfl ?_
  refine M0 (q_rem rfl rfl rfl rfl (by omega)) rfl rfl ?_; refine M0 (q_at rfl rfl rfl rfl (by omega) (by assumption) rfl) rfl rfl ?_; refine M0 (q_lr1 rfl rfl rfl rfl) rfl rfl ?_
  refine M0 (q_assignC rfl rfl rfl) rfl rfl ?_; refine L_nil ?_; refine T_n ?_; refine A_ret ?_; refine F_r ?_
  exact E_tmp rfl rfl (W_end [] (by decide) rfl rfl rfl)
set_option maxHeartbeats 8000000 in
theorem S_ScriptInput (xs : List Int) (d t : Int) (hn : Enc.gd xs) (ht : I64 t) : Con Try.prog 56 [] [al xs, ai d, ai t] [] (I (scriptIn xs d t)) := by
  have hl := els_len xs
  have hx := hn.1
  obtain ⟨ht1, ht2⟩ := ht
  refine Con.of Try.func56 rfl Try.ntmps56 rfl (fun E => ?_)
  refine A_seq ?_; refine A_region ?_; refine M0 (q_assignC rfl rfl rfl) rfl rfl ?_; refine L_nil ?_; refine T_n ?_; refine A_seq ?_; refine A_seq ?_; refine A_region ?_
  refine M0 (q_moveC rfl rfl rfl) rfl rfl ?_; refine M0 (q_len rfl rfl rfl) rfl rfl ?_; refine M0 (q_call0 rfl rfl (S_in (els xs).length 1 400) rfl) rfl rfl ?_
  refine M0 (q_not rfl rfl rfl) rfl rfl ?_; refine M0 (q_moveC rfl rfl rfl) rfl rfl ?_; refine M0 (Qt.grdF rfl rfl rfl .stop (fun hgrd => q_moveC rfl rfl rfl)) rfl rfl ?_
  refine M0 (Qt.grdF rfl rfl rfl (.hit .stop) (fun hgrd => q_call0 rfl rfl (S_inputsOk xs hn) rfl)) rfl rfl ?_
  refine M0 (Qt.grdF rfl rfl rfl (.hit (.hit .stop)) (fun hgrd => q_not rfl rfl rfl)) rfl rfl ?_; refine M0 (q_or rfl rfl rfl rfl) rfl rfl ?_; refine M0 (q_moveC rfl rfl rfl) rfl rfl ?_
  refine M0 (Qt.grdF rfl rfl rfl .stop (fun hgrd => q_moveC rfl rfl rfl)) rfl rfl ?_
  refine M0 (Qt.grdF rfl rfl rfl (.hit .stop) (fun hgrd => q_call0 rfl rfl (S_in d 0 5) rfl)) rfl rfl ?_
  refine M0 (Qt.grdF rfl rfl rfl (.hit (.hit .stop)) (fun hgrd => q_not rfl rfl rfl)) rfl rfl ?_; refine M0 (q_or rfl rfl rfl rfl) rfl rfl ?_; refine M0 (q_moveC rfl rfl rfl) rfl rfl ?_
  refine M0 (Qt.grdF rfl rfl rfl .stop (fun hgrd => q_moveC rfl rfl rfl)) rfl rfl ?_; refine M0 (Qt.grdF rfl rfl rfl (.hit .stop) (fun hgrd => q_lss rfl rfl rfl rfl)) rfl rfl ?_
  refine M0 (q_or rfl rfl rfl rfl) rfl rfl ?_; refine L_nil ?_; refine T_n ?_
  refine A_cond rfl (fun h => ?_) (fun h => ?_)
  · rw [script_no (fun ⟨⟨q1, q2⟩, q3⟩ => by rw [script_inR hl] at h; unfold scriptOk at q1; rw [Bool.and_eq_true] at q1; rw [q1.1, q1.2, q2] at h; simp at h; omega)]
    refine A_seq ?_; refine A_region ?_; refine M0 (q_assignC rfl rfl rfl) rfl rfl ?_; refine L_nil ?_; refine T_n ?_; refine A_ret ?_; refine T_r ?_; refine F_r ?_
    exact E_tmp rfl rfl (W_end [] (by decide) rfl rfl rfl)
  simp only [Bool.or_eq_false_iff, Bool.not_eq_false', decide_eq_false_iff_not] at h
  obtain ⟨⟨⟨q0, q1⟩, q2⟩, q3⟩ := h
  rw [script_inR hl] at q0
  have q1 : scriptOk xs = true := by unfold scriptOk; rw [q0, q1]; rfl
  have hsl := script_len q1
  have hd := inR_iff.1 q2
  refine A_skip ?_; refine T_n ?_; refine A_seq ?_; refine A_seq ?_; refine A_region ?_; refine M0 (q_moveC rfl rfl rfl) rfl rfl ?_; refine M0 (q_moveC rfl rfl rfl) rfl rfl ?_
  refine M0 (q_lss rfl rfl rfl rfl) rfl rfl ?_; refine L_nil ?_; refine T_n ?_
  refine A_cond rfl (fun h => ?_) (fun h => ?_)
  · rw [script_lo q1 q2 (by omega) (of_decide_eq_true h)]
    refine A_seq ?_; refine A_region ?_; refine M0 (q_assignC rfl rfl rfl) rfl rfl ?_; refine L_nil ?_; refine T_n ?_; refine A_ret ?_; refine T_r ?_; refine F_r ?_
    exact E_tmp rfl rfl (W_end [] (by decide) rfl rfl rfl)
  have h9 := of_decide_eq_false h
  obtain ⟨hi, h2, h3, h4⟩ := script_at q1 q2 (by omega) (of_decide_eq_false h)
  have hat : (els xs)[((t - d) % ((els xs).length : Int)).toNat]? = some (Enc.e xs[((t - d) % (xs.length : Int)).toNat]) := by rw [hl]; simp [els, hi]
  have h5 : 0 ≤ (t - d) % ((els xs).length : Int) ∧ (t - d) % ((els xs).length : Int) < ((els xs).length : Int) := by rw [hl]; exact ⟨h2, h3⟩
  rw [h4]
  refine A_skip ?_; refine T_n ?_; refine A_seq ?_; refine A_region ?_; refine M0 (q_moveC rfl rfl rfl) rfl rfl ?_; refine M0 (q_moveC rfl rfl rfl) rfl rfl ?_
  refine M0 (q_moveC rfl rfl rfl) rfl rfl ?_; refine M0 (q_sub rfl rfl rfl rfl (by omega)) rfl rfl ?_; refine M0 (q_moveC rfl rfl rfl) rfl rfl ?_; refine M0 (q_len rfl rfl rfl) rfl rfl ?_
  refine M0 (q_rem rfl rfl rfl rfl (by omega)) rfl rfl ?_; refine M0 (q_at rfl rfl rfl rfl (by omega) (by assumption) rfl) rfl rfl ?_; refine M0 (q_lr1 rfl rfl rfl rfl) rfl rfl ?_
  refine M0 (q_assignC rfl rfl rfl) rfl rfl ?_; refine L_nil ?_; refine T_n ?_; refine A_ret ?_; refine F_r ?_
  exact E_tmp rfl rfl (W_end [] (by decide) rfl rfl rfl)
def trueIn (m : TMatch) (p t : Int) : Int := if h : 0 ≤ p ∧ p < m.Scripts.length then scriptIn (m.Scripts[p.toNat]'(by omega)) m.Delay t else -1
set_option maxHeartbeats 8000000 in
theorem I_TrueInput (m : TMatch) (p t : Int) (hg : Enc.gd m) (ht : I64 t) : Con Try.prog 22 [] [ag m, ai p, ai t] [] (I (trueIn m p t)) := by
  obtain ⟨gL, gS, gD, gSc, gRest⟩ := hg
  have hl := els_len m.Scripts
  refine Con.of Try.func22 rfl Try.ntmps22 rfl (fun E => ?_)
  refine A_seq ?_; refine A_region ?_; refine M1 (q_boxN rfl rfl rfl rfl) rfl rfl ?_; refine M0 (q_assignC rfl rfl rfl) rfl rfl ?_; refine L_nil ?_; refine T_n ?_; refine A_seq ?_; refine A_seq ?_
  refine A_region ?_; refine M0 (q_moveC rfl rfl rfl) rfl rfl ?_; refine M0 (q_lss rfl rfl rfl rfl) rfl rfl ?_; refine M0 (q_moveC rfl rfl rfl) rfl rfl ?_
  refine M0 (Qt.grdF rfl rfl rfl .stop (fun hgrd => q_moveC rfl rfl rfl)) rfl rfl ?_
  refine M0 (Qt.grdF rfl rfl rfl (.hit .stop) (fun hgrd => q_fldp rfl rfl rfl rfl (by decide))) rfl rfl ?_
  refine M0 (Qt.grdF rfl rfl rfl (.hit (.hit .stop)) (fun hgrd => q_ld1 rfl rfl rfl rfl rfl)) rfl rfl ?_
  refine M0 (Qt.grdF rfl rfl rfl (.hit (.hit (.hit .stop))) (fun hgrd => q_len rfl rfl rfl)) rfl rfl ?_
  refine M0 (Qt.grdF rfl rfl rfl (.hit (.hit (.hit (.hit .stop)))) (fun hgrd => q_geq rfl rfl rfl rfl)) rfl rfl ?_; refine M0 (q_or rfl rfl rfl rfl) rfl rfl ?_; refine L_nil ?_
  refine T_n ?_
  refine A_cond rfl (fun h => ?_) (fun h => ?_)
  · simp only [Bool.or_eq_true, decide_eq_true_eq] at h
    rw [show trueIn m p t = -1 from dif_neg (by omega)]
    refine A_seq ?_; refine A_region ?_; refine M0 (q_assignC rfl rfl rfl) rfl rfl ?_; refine L_nil ?_; refine T_n ?_; refine A_ret ?_; refine T_r ?_; refine F_r ?_
    exact E_tmp rfl rfl (W_end [] (by decide) rfl rfl rfl)
  simp only [Bool.or_eq_false_iff, decide_eq_false_iff_not] at h
  have hi : p.toNat < m.Scripts.length := by omega
  have hat : (els m.Scripts)[p.toNat]? = some (Enc.e (m.Scripts[p.toNat]'hi)) := by simp [els, hi]
  have hc := I_ScriptInput (m.Scripts[p.toNat]'hi) m.Delay t (gSc.2 _ (List.getElem_mem hi)) ht
  rw [show trueIn m p t = scriptIn (m.Scripts[p.toNat]'hi) m.Delay t from dif_pos (by omega)]
  refine A_skip ?_; refine T_n ?_; refine A_seq ?_
  refine A_draw [[], [0], [], [0, 1, 2], [0, 1, 2, 3], [], [5], [], [0, 1, 2, 3, 4, 5, 6, 7], [0, 1, 2, 3, 4, 5, 6, 7, 8]] [[], [16], [], [16, 17, 18], [16, 17, 18, 19], [], [21], [], [16, 17, 18, 19, 20, 21, 22, 23], [16, 17, 18, 19, 20, 21, 22, 23, 24]] [[18, 21, 22, 23], [18, 21, 22, 23], [16, 17, 21, 22, 23], [21, 22, 23], [21, 22, 23], [16, 17, 18, 19, 20, 23], [16, 17, 18, 19, 20, 23], [16, 17, 18, 19, 20, 21, 22], [], []] rfl ?_
  refine DR.step (q_fldp rfl rfl rfl rfl (by decide)) rfl rfl ?_; refine DR.step (q_ld1 rfl rfl rfl rfl rfl) rfl rfl ?_; refine DR.step (q_moveC rfl rfl rfl) rfl rfl ?_
  refine DR.step (q_at rfl rfl rfl rfl (by omega) (by assumption) rfl) rfl rfl ?_; refine DR.step (q_lr1 rfl rfl rfl rfl) rfl rfl ?_
  refine DR.step (q_fldp rfl rfl rfl rfl (by decide)) rfl rfl ?_; refine DR.step (q_ld1 rfl rfl rfl rfl rfl) rfl rfl ?_; refine DR.step (q_moveC rfl rfl rfl) rfl rfl ?_
  refine DR.step (q_call0 rfl rfl (hc) rfl) rfl rfl ?_; refine DR.step (q_assignC rfl rfl rfl) rfl rfl ?_; refine DR.stop (by kernel_rfl) (by kernel_rfl) ?_
  refine L_nil ?_; refine T_n ?_; refine A_ret ?_; refine F_r ?_
  exact E_tmp rfl rfl (W_end [] (by decide) rfl rfl rfl)
set_option maxHeartbeats 8000000 in
theorem S_TrueInput (m : TMatch) (p t : Int) (hg : Enc.gd m) (ht : I64 t) : Con Try.prog 20 [] [ag m, ai p, ai t] [] (I (trueIn m p t)) := by
  obtain ⟨gL, gS, gD, gSc, gRest⟩ := hg
  have hl := els_len m.Scripts
  refine Con.of Try.func20 rfl Try.ntmps20 rfl (fun E => ?_)
  refine A_seq ?_; refine A_region ?_; refine M1 (q_boxN rfl rfl rfl rfl) rfl rfl ?_; refine M0 (q_assignC rfl rfl rfl) rfl rfl ?_; refine L_nil ?_; refine T_n ?_; refine A_seq ?_; refine A_seq ?_
  refine A_region ?_; refine M0 (q_moveC rfl rfl rfl) rfl rfl ?_; refine M0 (q_lss rfl rfl rfl rfl) rfl rfl ?_; refine M0 (q_moveC rfl rfl rfl) rfl rfl ?_
  refine M0 (Qt.grdF rfl rfl rfl .stop (fun hgrd => q_moveC rfl rfl rfl)) rfl rfl ?_
  refine M0 (Qt.grdF rfl rfl rfl (.hit .stop) (fun hgrd => q_fldp rfl rfl rfl rfl (by decide))) rfl rfl ?_
  refine M0 (Qt.grdF rfl rfl rfl (.hit (.hit .stop)) (fun hgrd => q_ld1 rfl rfl rfl rfl rfl)) rfl rfl ?_
  refine M0 (Qt.grdF rfl rfl rfl (.hit (.hit (.hit .stop))) (fun hgrd => q_len rfl rfl rfl)) rfl rfl ?_
  refine M0 (Qt.grdF rfl rfl rfl (.hit (.hit (.hit (.hit .stop)))) (fun hgrd => q_geq rfl rfl rfl rfl)) rfl rfl ?_; refine M0 (q_or rfl rfl rfl rfl) rfl rfl ?_; refine L_nil ?_
  refine T_n ?_
  refine A_cond rfl (fun h => ?_) (fun h => ?_)
  · simp only [Bool.or_eq_true, decide_eq_true_eq] at h
    rw [show trueIn m p t = -1 from dif_neg (by omega)]
    refine A_seq ?_; refine A_region ?_; refine M0 (q_assignC rfl rfl rfl) rfl rfl ?_; refine L_nil ?_; refine T_n ?_; refine A_ret ?_; refine T_r ?_; refine F_r ?_
    exact E_tmp rfl rfl (W_end [] (by decide) rfl rfl rfl)
  simp only [Bool.or_eq_false_iff, decide_eq_false_iff_not] at h
  have hi : p.toNat < m.Scripts.length := by omega
  have hat : (els m.Scripts)[p.toNat]? = some (Enc.e (m.Scripts[p.toNat]'hi)) := by simp [els, hi]
  have hc := S_ScriptInput (m.Scripts[p.toNat]'hi) m.Delay t (gSc.2 _ (List.getElem_mem hi)) ht
  rw [show trueIn m p t = scriptIn (m.Scripts[p.toNat]'hi) m.Delay t from dif_pos (by omega)]
  refine A_skip ?_; refine T_n ?_; refine A_seq ?_
  refine A_draw [[], [0], [], [0, 1, 2], [0, 1, 2, 3], [], [5], [], [0, 1, 2, 3, 4, 5, 6, 7], [0, 1, 2, 3, 4, 5, 6, 7, 8]] [[], [16], [], [16, 17, 18], [16, 17, 18, 19], [], [21], [], [16, 17, 18, 19, 20, 21, 22, 23], [16, 17, 18, 19, 20, 21, 22, 23, 24]] [[18, 21, 22, 23], [18, 21, 22, 23], [16, 17, 21, 22, 23], [21, 22, 23], [21, 22, 23], [16, 17, 18, 19, 20, 23], [16, 17, 18, 19, 20, 23], [16, 17, 18, 19, 20, 21, 22], [], []] rfl ?_
  refine DR.step (q_fldp rfl rfl rfl rfl (by decide)) rfl rfl ?_; refine DR.step (q_ld1 rfl rfl rfl rfl rfl) rfl rfl ?_; refine DR.step (q_moveC rfl rfl rfl) rfl rfl ?_
  refine DR.step (q_at rfl rfl rfl rfl (by omega) (by assumption) rfl) rfl rfl ?_; refine DR.step (q_lr1 rfl rfl rfl rfl) rfl rfl ?_
  refine DR.step (q_fldp rfl rfl rfl rfl (by decide)) rfl rfl ?_; refine DR.step (q_ld1 rfl rfl rfl rfl rfl) rfl rfl ?_; refine DR.step (q_moveC rfl rfl rfl) rfl rfl ?_
  refine DR.step (q_call0 rfl rfl (hc) rfl) rfl rfl ?_; refine DR.step (q_assignC rfl rfl rfl) rfl rfl ?_; refine DR.stop (by kernel_rfl) (by kernel_rfl) ?_
  refine L_nil ?_; refine T_n ?_; refine A_ret ?_; refine F_r ?_
  exact E_tmp rfl rfl (W_end [] (by decide) rfl rfl rfl)
end Go.Proofs.Ytbpebmolbdplmaa
end
