/-
  How the laws count, copy and compare matches. No statement of the program is proved here.
  Conditions: lists of at most 2^20 elements.
-/
import Derived.Test.YtoecjaohdnoenaaGreatDDSmAllk27
set_option linter.unusedVariables false
set_option linter.unusedSimpArgs false
set_option maxRecDepth 8000
set_option maxHeartbeats 8000000
namespace Go.Proofs.YtoecjaohdnoenaaGreat
section
open Go.RowKit

theorem to_Match (x:TMatch) (hg:Enc.wt x≤1048576):Con Tryz.prog 41 [] [ag x] [.row 1 (els x.Level.Rows),.row 1 (els x.Scripts),.row 23 (els x.Peers),.row 1 (els x.Wires),.row 1 (els x.Paces),.row 1 (els x.Acks),.row 6 (els x.Watchers),.row 10 (els x.Lines),.row 2 (els x.Alarms)] (.o (.ag [.ref 0,.rd [] (.v (.int .i64 x.Seed)),.rd [] (.v (.int .i64 x.Delay)),.ref 1,.ref 2,.ref 3,.ref 4,.ref 5,.rd [] (.v (.int .i64 x.Clock)),.ref 6,.ref 7,.ref 8,.rd [] (.v (.int .i64 x.Bad))])):=by
 have hw:Enc.wt x=Enc.wt x.Level+Enc.wt x.Scripts+Enc.wt x.Peers+Enc.wt x.Wires+Enc.wt x.Paces+Enc.wt x.Acks+Enc.wt x.Watchers+Enc.wt x.Lines+Enc.wt x.Alarms:=rfl
 refine Con.of Tryz.func41 J Tryz.ntmps41 J (fun E => ?_)
 refine Wz [101,60,4,60,151] ?_;refine AL.weak (st':=(⟨_,[(1,.o (.c (.ptr 0 0))),(2,.o (.c (.ptr 1 0))),(3,.o (.c (.ptr 2 0))),(5,.o (.ag ((Enc.e x.Level).map (V1.rd []))))],[.box ((Enc.e x).map (V1.rd [])),.box [.rd [] (.v (.slice none 0 0)),.rd [] (.v (.int .i64 0)),.rd [] (.v (.int .i64 0)),.rd [] (.v (.slice none 0 0)),.rd [] (.v (.slice none 0 0)),.rd [] (.v (.slice none 0 0)),.rd [] (.v (.slice none 0 0)),.rd [] (.v (.slice none 0 0)),.rd [] (.v (.int .i64 0)),.rd [] (.v (.slice none 0 0)),.rd [] (.v (.slice none 0 0)),.rd [] (.v (.slice none 0 0)),.rd [] (.v (.int .i64 0))],.box [.rd [] (.v (.slice none 0 0)),.rd [] (.v (.int .i64 0)),.rd [] (.v (.int .i64 0)),.rd [] (.v (.slice none 0 0)),.rd [] (.v (.slice none 0 0)),.rd [] (.v (.slice none 0 0)),.rd [] (.v (.slice none 0 0)),.rd [] (.v (.slice none 0 0)),.rd [] (.v (.int .i64 0)),.rd [] (.v (.slice none 0 0)),.rd [] (.v (.slice none 0 0)),.rd [] (.v (.slice none 0 0)),.rd [] (.v (.int .i64 0))]]⟩:St)) (Xu [0,1,2] (by kernel_rfl)) ?_;refine M1 (Za J J (to_Level x.Level (by omega)) J J J) J J ?_;refine Wz [66,22,35,43,43] ?_;refine AL.weak (st':=(⟨_,[(1,.o (.c (.ptr 0 0))),(2,.o (.c (.ptr 1 0))),(3,.o (.c (.ptr 2 0))),(15,L x.Scripts)],[.box ((Enc.e x).map (V1.rd [])),.box [.rd [] (.v (.slice none 0 0)),.rd [] (.v (.int .i64 0)),.rd [] (.v (.int .i64 0)),.rd [] (.v (.slice none 0 0)),.rd [] (.v (.slice none 0 0)),.rd [] (.v (.slice none 0 0)),.rd [] (.v (.slice none 0 0)),.rd [] (.v (.slice none 0 0)),.rd [] (.v (.int .i64 0)),.rd [] (.v (.slice none 0 0)),.rd [] (.v (.slice none 0 0)),.rd [] (.v (.slice none 0 0)),.rd [] (.v (.int .i64 0))],.box [.ref 3,.rd [] (.v (.int .i64 x.Seed)),.rd [] (.v (.int .i64 x.Delay)),.rd [] (.v (.slice none 0 0)),.rd [] (.v (.slice none 0 0)),.rd [] (.v (.slice none 0 0)),.rd [] (.v (.slice none 0 0)),.rd [] (.v (.slice none 0 0)),.rd [] (.v (.int .i64 0)),.rd [] (.v (.slice none 0 0)),.rd [] (.v (.slice none 0 0)),.rd [] (.v (.slice none 0 0)),.rd [] (.v (.int .i64 0))],.row 1 (els x.Level.Rows)]⟩:St)) (Xu [0,1,2,3] (by kernel_rfl)) ?_;refine M1 (Za J J (to_IntSS x.Scripts (by omega)) J J J) J J ?_;refine Wz [43] ?_;refine AL.weak (st':=(⟨_,[(1,.o (.c (.ptr 0 0))),(2,.o (.c (.ptr 1 0))),(3,.o (.c (.ptr 2 0))),(19,L x.Peers)],[.box ((Enc.e x).map (V1.rd [])),.box [.rd [] (.v (.slice none 0 0)),.rd [] (.v (.int .i64 0)),.rd [] (.v (.int .i64 0)),.rd [] (.v (.slice none 0 0)),.rd [] (.v (.slice none 0 0)),.rd [] (.v (.slice none 0 0)),.rd [] (.v (.slice none 0 0)),.rd [] (.v (.slice none 0 0)),.rd [] (.v (.int .i64 0)),.rd [] (.v (.slice none 0 0)),.rd [] (.v (.slice none 0 0)),.rd [] (.v (.slice none 0 0)),.rd [] (.v (.int .i64 0))],.box [.ref 3,.rd [] (.v (.int .i64 x.Seed)),.rd [] (.v (.int .i64 x.Delay)),.ref 4,.rd [] (.v (.slice none 0 0)),.rd [] (.v (.slice none 0 0)),.rd [] (.v (.slice none 0 0)),.rd [] (.v (.slice none 0 0)),.rd [] (.v (.int .i64 0)),.rd [] (.v (.slice none 0 0)),.rd [] (.v (.slice none 0 0)),.rd [] (.v (.slice none 0 0)),.rd [] (.v (.int .i64 0))],.row 1 (els x.Level.Rows),.row 1 (els x.Scripts)]⟩:St)) (Xu [0,1,2,3,4] (by kernel_rfl)) ?_;refine M1 (Za J J (to_PeerS x.Peers (by omega)) J J J) J J ?_;refine Wz [43] ?_;refine AL.weak (st':=(⟨_,[(1,.o (.c (.ptr 0 0))),(2,.o (.c (.ptr 1 0))),(3,.o (.c (.ptr 2 0))),(23,L x.Wires)],[.box ((Enc.e x).map (V1.rd [])),.box [.rd [] (.v (.slice none 0 0)),.rd [] (.v (.int .i64 0)),.rd [] (.v (.int .i64 0)),.rd [] (.v (.slice none 0 0)),.rd [] (.v (.slice none 0 0)),.rd [] (.v (.slice none 0 0)),.rd [] (.v (.slice none 0 0)),.rd [] (.v (.slice none 0 0)),.rd [] (.v (.int .i64 0)),.rd [] (.v (.slice none 0 0)),.rd [] (.v (.slice none 0 0)),.rd [] (.v (.slice none 0 0)),.rd [] (.v (.int .i64 0))],.box [.ref 3,.rd [] (.v (.int .i64 x.Seed)),.rd [] (.v (.int .i64 x.Delay)),.ref 4,.ref 5,.rd [] (.v (.slice none 0 0)),.rd [] (.v (.slice none 0 0)),.rd [] (.v (.slice none 0 0)),.rd [] (.v (.int .i64 0)),.rd [] (.v (.slice none 0 0)),.rd [] (.v (.slice none 0 0)),.rd [] (.v (.slice none 0 0)),.rd [] (.v (.int .i64 0))],.row 1 (els x.Level.Rows),.row 1 (els x.Scripts),.row 23 (els x.Peers)]⟩:St)) (Xu [0,1,2,3,4,5] (by kernel_rfl)) ?_;refine M1 (Za J J (to_WireSS x.Wires (by omega)) J J J) J J ?_;refine Wz [43] ?_;refine AL.weak (st':=(⟨_,[(1,.o (.c (.ptr 0 0))),(2,.o (.c (.ptr 1 0))),(3,.o (.c (.ptr 2 0))),(27,L x.Paces)],[.box ((Enc.e x).map (V1.rd [])),.box [.rd [] (.v (.slice none 0 0)),.rd [] (.v (.int .i64 0)),.rd [] (.v (.int .i64 0)),.rd [] (.v (.slice none 0 0)),.rd [] (.v (.slice none 0 0)),.rd [] (.v (.slice none 0 0)),.rd [] (.v (.slice none 0 0)),.rd [] (.v (.slice none 0 0)),.rd [] (.v (.int .i64 0)),.rd [] (.v (.slice none 0 0)),.rd [] (.v (.slice none 0 0)),.rd [] (.v (.slice none 0 0)),.rd [] (.v (.int .i64 0))],.box [.ref 3,.rd [] (.v (.int .i64 x.Seed)),.rd [] (.v (.int .i64 x.Delay)),.ref 4,.ref 5,.ref 6,.rd [] (.v (.slice none 0 0)),.rd [] (.v (.slice none 0 0)),.rd [] (.v (.int .i64 0)),.rd [] (.v (.slice none 0 0)),.rd [] (.v (.slice none 0 0)),.rd [] (.v (.slice none 0 0)),.rd [] (.v (.int .i64 0))],.row 1 (els x.Level.Rows),.row 1 (els x.Scripts),.row 23 (els x.Peers),.row 1 (els x.Wires)]⟩:St)) (Xu [0,1,2,3,4,5,6] (by kernel_rfl)) ?_;refine M1 (Za J J (to_PaceSS x.Paces (by omega)) J J J) J J ?_;refine Wz [43] ?_;refine AL.weak (st':=(⟨_,[(1,.o (.c (.ptr 0 0))),(2,.o (.c (.ptr 1 0))),(3,.o (.c (.ptr 2 0))),(31,L x.Acks)],[.box ((Enc.e x).map (V1.rd [])),.box [.rd [] (.v (.slice none 0 0)),.rd [] (.v (.int .i64 0)),.rd [] (.v (.int .i64 0)),.rd [] (.v (.slice none 0 0)),.rd [] (.v (.slice none 0 0)),.rd [] (.v (.slice none 0 0)),.rd [] (.v (.slice none 0 0)),.rd [] (.v (.slice none 0 0)),.rd [] (.v (.int .i64 0)),.rd [] (.v (.slice none 0 0)),.rd [] (.v (.slice none 0 0)),.rd [] (.v (.slice none 0 0)),.rd [] (.v (.int .i64 0))],.box [.ref 3,.rd [] (.v (.int .i64 x.Seed)),.rd [] (.v (.int .i64 x.Delay)),.ref 4,.ref 5,.ref 6,.ref 7,.rd [] (.v (.slice none 0 0)),.rd [] (.v (.int .i64 0)),.rd [] (.v (.slice none 0 0)),.rd [] (.v (.slice none 0 0)),.rd [] (.v (.slice none 0 0)),.rd [] (.v (.int .i64 0))],.row 1 (els x.Level.Rows),.row 1 (els x.Scripts),.row 23 (els x.Peers),.row 1 (els x.Wires),.row 1 (els x.Paces)]⟩:St)) (Xu [0,1,2,3,4,5,6,7] (by kernel_rfl)) ?_;refine M1 (Za J J (to_IntSS x.Acks (by omega)) J J J) J J ?_;refine Wz [43,43] ?_;refine AL.weak (st':=(⟨_,[(1,.o (.c (.ptr 0 0))),(2,.o (.c (.ptr 1 0))),(3,.o (.c (.ptr 2 0))),(38,L x.Watchers)],[.box ((Enc.e x).map (V1.rd [])),.box [.rd [] (.v (.slice none 0 0)),.rd [] (.v (.int .i64 0)),.rd [] (.v (.int .i64 0)),.rd [] (.v (.slice none 0 0)),.rd [] (.v (.slice none 0 0)),.rd [] (.v (.slice none 0 0)),.rd [] (.v (.slice none 0 0)),.rd [] (.v (.slice none 0 0)),.rd [] (.v (.int .i64 0)),.rd [] (.v (.slice none 0 0)),.rd [] (.v (.slice none 0 0)),.rd [] (.v (.slice none 0 0)),.rd [] (.v (.int .i64 0))],.box [.ref 3,.rd [] (.v (.int .i64 x.Seed)),.rd [] (.v (.int .i64 x.Delay)),.ref 4,.ref 5,.ref 6,.ref 7,.ref 8,.rd [] (.v (.int .i64 x.Clock)),.rd [] (.v (.slice none 0 0)),.rd [] (.v (.slice none 0 0)),.rd [] (.v (.slice none 0 0)),.rd [] (.v (.int .i64 0))],.row 1 (els x.Level.Rows),.row 1 (els x.Scripts),.row 23 (els x.Peers),.row 1 (els x.Wires),.row 1 (els x.Paces),.row 1 (els x.Acks)]⟩:St)) (Xu [0,1,2,3,4,5,6,7,8] (by kernel_rfl)) ?_;refine M1 (Za J J (to_SpectatorS x.Watchers (by omega)) J J J) J J ?_;refine Wz [43] ?_;refine AL.weak (st':=(⟨_,[(1,.o (.c (.ptr 0 0))),(2,.o (.c (.ptr 1 0))),(3,.o (.c (.ptr 2 0))),(42,L x.Lines)],[.box ((Enc.e x).map (V1.rd [])),.box [.rd [] (.v (.slice none 0 0)),.rd [] (.v (.int .i64 0)),.rd [] (.v (.int .i64 0)),.rd [] (.v (.slice none 0 0)),.rd [] (.v (.slice none 0 0)),.rd [] (.v (.slice none 0 0)),.rd [] (.v (.slice none 0 0)),.rd [] (.v (.slice none 0 0)),.rd [] (.v (.int .i64 0)),.rd [] (.v (.slice none 0 0)),.rd [] (.v (.slice none 0 0)),.rd [] (.v (.slice none 0 0)),.rd [] (.v (.int .i64 0))],.box [.ref 3,.rd [] (.v (.int .i64 x.Seed)),.rd [] (.v (.int .i64 x.Delay)),.ref 4,.ref 5,.ref 6,.ref 7,.ref 8,.rd [] (.v (.int .i64 x.Clock)),.ref 9,.rd [] (.v (.slice none 0 0)),.rd [] (.v (.slice none 0 0)),.rd [] (.v (.int .i64 0))],.row 1 (els x.Level.Rows),.row 1 (els x.Scripts),.row 23 (els x.Peers),.row 1 (els x.Wires),.row 1 (els x.Paces),.row 1 (els x.Acks),.row 6 (els x.Watchers)]⟩:St)) (Xu [0,1,2,3,4,5,6,7,8,9] (by kernel_rfl)) ?_;refine M1 (Za J J (to_WireS x.Lines (by omega)) J J J) J J ?_;refine Wz [43] ?_;refine AL.weak (st':=(⟨_,[(1,.o (.c (.ptr 0 0))),(2,.o (.c (.ptr 1 0))),(3,.o (.c (.ptr 2 0))),(46,L x.Alarms)],[.box ((Enc.e x).map (V1.rd [])),.box [.rd [] (.v (.slice none 0 0)),.rd [] (.v (.int .i64 0)),.rd [] (.v (.int .i64 0)),.rd [] (.v (.slice none 0 0)),.rd [] (.v (.slice none 0 0)),.rd [] (.v (.slice none 0 0)),.rd [] (.v (.slice none 0 0)),.rd [] (.v (.slice none 0 0)),.rd [] (.v (.int .i64 0)),.rd [] (.v (.slice none 0 0)),.rd [] (.v (.slice none 0 0)),.rd [] (.v (.slice none 0 0)),.rd [] (.v (.int .i64 0))],.box [.ref 3,.rd [] (.v (.int .i64 x.Seed)),.rd [] (.v (.int .i64 x.Delay)),.ref 4,.ref 5,.ref 6,.ref 7,.ref 8,.rd [] (.v (.int .i64 x.Clock)),.ref 9,.ref 10,.rd [] (.v (.slice none 0 0)),.rd [] (.v (.int .i64 0))],.row 1 (els x.Level.Rows),.row 1 (els x.Scripts),.row 23 (els x.Peers),.row 1 (els x.Wires),.row 1 (els x.Paces),.row 1 (els x.Acks),.row 6 (els x.Watchers),.row 10 (els x.Lines)]⟩:St)) (Xu [0,1,2,3,4,5,6,7,8,9,10] (by kernel_rfl)) ?_;refine M1 (Za J J (to_AlarmS x.Alarms (by omega)) J J J) J J ?_
 refine z2 J J J ?_; first | refine Q4 J J J J J J J J ?_ | refine Qy J J J J J J J J J ?_
 refine Wz [1,35,75,4] ?_;refine AL.weak (st':=(⟨_,[(2,.o (.c (.ptr 1 0))),(3,.o (.c (.ptr 2 0)))],[.box ((Enc.e x).map (V1.rd [])),.box [.rd [] (.v (.slice none 0 0)),.rd [] (.v (.int .i64 0)),.rd [] (.v (.int .i64 0)),.rd [] (.v (.slice none 0 0)),.rd [] (.v (.slice none 0 0)),.rd [] (.v (.slice none 0 0)),.rd [] (.v (.slice none 0 0)),.rd [] (.v (.slice none 0 0)),.rd [] (.v (.int .i64 0)),.rd [] (.v (.slice none 0 0)),.rd [] (.v (.slice none 0 0)),.rd [] (.v (.slice none 0 0)),.rd [] (.v (.int .i64 0))],.box [.ref 3,.rd [] (.v (.int .i64 x.Seed)),.rd [] (.v (.int .i64 x.Delay)),.ref 4,.ref 5,.ref 6,.ref 7,.ref 8,.rd [] (.v (.int .i64 x.Clock)),.ref 9,.ref 10,.ref 11,.rd [] (.v (.int .i64 x.Bad))],.row 1 (els x.Level.Rows),.row 1 (els x.Scripts),.row 23 (els x.Peers),.row 1 (els x.Wires),.row 1 (els x.Paces),.row 1 (els x.Acks),.row 6 (els x.Watchers),.row 10 (els x.Lines),.row 2 (els x.Alarms)]⟩:St)) (Xv [0,1,2,3,4,5,6,7,8,9,10,11] (by decide) J ((by kernel_rfl)) (.c J (.c J (.nil)))) ?_;refine z4 J J J ?_;refine AL.weak (st':=(⟨_,[(2,.o (.c (.ptr 1 0))),(52,.o (.ag [.ref 3,.rd [] (.v (.int .i64 x.Seed)),.rd [] (.v (.int .i64 x.Delay)),.ref 4,.ref 5,.ref 6,.ref 7,.ref 8,.rd [] (.v (.int .i64 x.Clock)),.ref 9,.ref 10,.ref 11,.rd [] (.v (.int .i64 x.Bad))]))],[.box ((Enc.e x).map (V1.rd [])),.box [.rd [] (.v (.slice none 0 0)),.rd [] (.v (.int .i64 0)),.rd [] (.v (.int .i64 0)),.rd [] (.v (.slice none 0 0)),.rd [] (.v (.slice none 0 0)),.rd [] (.v (.slice none 0 0)),.rd [] (.v (.slice none 0 0)),.rd [] (.v (.slice none 0 0)),.rd [] (.v (.int .i64 0)),.rd [] (.v (.slice none 0 0)),.rd [] (.v (.slice none 0 0)),.rd [] (.v (.slice none 0 0)),.rd [] (.v (.int .i64 0))],.box [.ref 3,.rd [] (.v (.int .i64 x.Seed)),.rd [] (.v (.int .i64 x.Delay)),.ref 4,.ref 5,.ref 6,.ref 7,.ref 8,.rd [] (.v (.int .i64 x.Clock)),.ref 9,.ref 10,.ref 11,.rd [] (.v (.int .i64 x.Bad))],.row 1 (els x.Level.Rows),.row 1 (els x.Scripts),.row 23 (els x.Peers),.row 1 (els x.Wires),.row 1 (els x.Paces),.row 1 (els x.Acks),.row 6 (els x.Watchers),.row 10 (els x.Lines),.row 2 (els x.Alarms)]⟩:St)) (Xv [0,1,2,3,4,5,6,7,8,9,10,11] (by decide) J ((by kernel_rfl)) (.c J (.c J (.nil)))) ?_;refine Qy J J J J J J J J J ?_;refine AL.weak (st':=(⟨_,[(2,.o (.c (.ptr 1 0)))],[.box ((Enc.e x).map (V1.rd [])),.box [.ref 3,.rd [] (.v (.int .i64 x.Seed)),.rd [] (.v (.int .i64 x.Delay)),.ref 4,.ref 5,.ref 6,.ref 7,.ref 8,.rd [] (.v (.int .i64 x.Clock)),.ref 9,.ref 10,.ref 11,.rd [] (.v (.int .i64 x.Bad))],.box [.ref 3,.rd [] (.v (.int .i64 x.Seed)),.rd [] (.v (.int .i64 x.Delay)),.ref 4,.ref 5,.ref 6,.ref 7,.ref 8,.rd [] (.v (.int .i64 x.Clock)),.ref 9,.ref 10,.ref 11,.rd [] (.v (.int .i64 x.Bad))],.row 1 (els x.Level.Rows),.row 1 (els x.Scripts),.row 23 (els x.Peers),.row 1 (els x.Wires),.row 1 (els x.Paces),.row 1 (els x.Acks),.row 6 (els x.Watchers),.row 10 (els x.Lines),.row 2 (els x.Alarms)]⟩:St)) (Xv [0,1,2,3,4,5,6,7,8,9,10,11] (by decide) J ((by kernel_rfl)) (.c J (.nil))) ?_;refine Wz [1,68] ?_;refine Xh (cs := [.ref 3,.rd [] (.v (.int .i64 x.Seed)),.rd [] (.v (.int .i64 x.Delay)),.ref 4,.ref 5,.ref 6,.ref 7,.ref 8,.rd [] (.v (.int .i64 x.Clock)),.ref 9,.ref 10,.ref 11,.rd [] (.v (.int .i64 x.Bad))]) J J J J ?_
 exact Xt [3,4,5,6,7,8,9,10,11] (by decide) J (by kernel_rfl) (by kernel_rfl)
theorem sz_Match (x:TMatch) (left:Int) (hg:Enc.gd x) (h0:0≤left) (h1:left≤1048576):Con Tryz.prog 39 [] [ag x,ai left] [] (I (szr (Enc.wt x) left)):=by
 obtain⟨g_Level,g_Seed,g_Delay,g_Scripts,g_Peers,g_Wires,g_Paces,g_Acks,g_Clock,g_Watchers,g_Lines,g_Alarms,g_Bad⟩:=hg
 have hw:Enc.wt x=Enc.wt x.Level+Enc.wt x.Scripts+Enc.wt x.Peers+Enc.wt x.Wires+Enc.wt x.Paces+Enc.wt x.Acks+Enc.wt x.Watchers+Enc.wt x.Lines+Enc.wt x.Alarms:=rfl
 have hm1:decide ((-1:Int)<0)=true:=rfl
 have hc_Level:=sz_Level x.Level (left) g_Level (by omega) (by omega)
 by_cases n_Level:left<Enc.wt x.Level
 ·rw[Z4 n_Level] at hc_Level
  refine Con.of Tryz.func39 J Tryz.ntmps39 J (fun E => ?_)
  refine Wz [19,79] ?_;refine zx (Qj J J (hc_Level) J) J ?_;refine Wz [106,21] ?_
  exact Xi J J (Xt [] (by decide) J J (Xk (by rw[Z4 (by omega)])))
 rw[Z5 (by omega)] at hc_Level
 have hb_Level:decide (left-Enc.wt x.Level<0)=false:=Gqa (by omega)
 have hc_Scripts:=sz_IntSS x.Scripts (left-Enc.wt x.Level) g_Scripts (by omega) (by omega)
 by_cases n_Scripts:left-Enc.wt x.Level<Enc.wt x.Scripts
 ·rw[Z4 n_Scripts] at hc_Scripts
  refine Con.of Tryz.func39 J Tryz.ntmps39 J (fun E => ?_)
  refine Wz [19,79] ?_;refine zx (Qj J J (hc_Level) J) J ?_;refine Wz [18] ?_;refine zx (Qj J J (hc_Scripts) J) J ?_;refine Wz [106,21] ?_
  exact Xi J J (Xt [] (by decide) J J (Xk (by rw[Z4 (by omega)])))
 rw[Z5 (by omega)] at hc_Scripts
 have hb_Scripts:decide (left-Enc.wt x.Level-Enc.wt x.Scripts<0)=false:=Gqa (by omega)
 have hc_Peers:=sz_PeerS x.Peers (left-Enc.wt x.Level-Enc.wt x.Scripts) g_Peers (by omega) (by omega)
 by_cases n_Peers:left-Enc.wt x.Level-Enc.wt x.Scripts<Enc.wt x.Peers
 ·rw[Z4 n_Peers] at hc_Peers
  refine Con.of Tryz.func39 J Tryz.ntmps39 J (fun E => ?_)
  refine Wz [19,79] ?_;refine zx (Qj J J (hc_Level) J) J ?_;refine Wz [18] ?_;refine zx (Qj J J (hc_Scripts) J) J ?_;refine Wz [18] ?_;refine zx (Qj J J (hc_Peers) J) J ?_;refine Wz [106,21] ?_
  exact Xi J J (Xt [] (by decide) J J (Xk (by rw[Z4 (by omega)])))
 rw[Z5 (by omega)] at hc_Peers
 have hb_Peers:decide (left-Enc.wt x.Level-Enc.wt x.Scripts-Enc.wt x.Peers<0)=false:=Gqa (by omega)
 have hc_Wires:=sz_WireSS x.Wires (left-Enc.wt x.Level-Enc.wt x.Scripts-Enc.wt x.Peers) g_Wires (by omega) (by omega)
 by_cases n_Wires:left-Enc.wt x.Level-Enc.wt x.Scripts-Enc.wt x.Peers<Enc.wt x.Wires
 ·rw[Z4 n_Wires] at hc_Wires
  refine Con.of Tryz.func39 J Tryz.ntmps39 J (fun E => ?_)
  refine Wz [19,79] ?_;refine zx (Qj J J (hc_Level) J) J ?_;refine Wz [18] ?_;refine zx (Qj J J (hc_Scripts) J) J ?_;refine Wz [18] ?_;refine zx (Qj J J (hc_Peers) J) J ?_;refine Wz [18] ?_;refine zx (Qj J J (hc_Wires) J) J ?_;refine Wz [106,21] ?_
  exact Xi J J (Xt [] (by decide) J J (Xk (by rw[Z4 (by omega)])))
 rw[Z5 (by omega)] at hc_Wires
 have hb_Wires:decide (left-Enc.wt x.Level-Enc.wt x.Scripts-Enc.wt x.Peers-Enc.wt x.Wires<0)=false:=Gqa (by omega)
 have hc_Paces:=sz_PaceSS x.Paces (left-Enc.wt x.Level-Enc.wt x.Scripts-Enc.wt x.Peers-Enc.wt x.Wires) g_Paces (by omega) (by omega)
 by_cases n_Paces:left-Enc.wt x.Level-Enc.wt x.Scripts-Enc.wt x.Peers-Enc.wt x.Wires<Enc.wt x.Paces
 ·rw[Z4 n_Paces] at hc_Paces
  refine Con.of Tryz.func39 J Tryz.ntmps39 J (fun E => ?_)
  refine Wz [19,79] ?_;refine zx (Qj J J (hc_Level) J) J ?_;refine Wz [18] ?_;refine zx (Qj J J (hc_Scripts) J) J ?_;refine Wz [18] ?_;refine zx (Qj J J (hc_Peers) J) J ?_;refine Wz [18] ?_;refine zx (Qj J J (hc_Wires) J) J ?_;refine Wz [18] ?_;refine zx (Qj J J (hc_Paces) J) J ?_;refine Wz [106,21] ?_
  exact Xi J J (Xt [] (by decide) J J (Xk (by rw[Z4 (by omega)])))
 rw[Z5 (by omega)] at hc_Paces
 have hb_Paces:decide (left-Enc.wt x.Level-Enc.wt x.Scripts-Enc.wt x.Peers-Enc.wt x.Wires-Enc.wt x.Paces<0)=false:=Gqa (by omega)
 have hc_Acks:=sz_IntSS x.Acks (left-Enc.wt x.Level-Enc.wt x.Scripts-Enc.wt x.Peers-Enc.wt x.Wires-Enc.wt x.Paces) g_Acks (by omega) (by omega)
 by_cases n_Acks:left-Enc.wt x.Level-Enc.wt x.Scripts-Enc.wt x.Peers-Enc.wt x.Wires-Enc.wt x.Paces<Enc.wt x.Acks
 ·rw[Z4 n_Acks] at hc_Acks
  refine Con.of Tryz.func39 J Tryz.ntmps39 J (fun E => ?_)
  refine Wz [19,79] ?_;refine zx (Qj J J (hc_Level) J) J ?_;refine Wz [18] ?_;refine zx (Qj J J (hc_Scripts) J) J ?_;refine Wz [18] ?_;refine zx (Qj J J (hc_Peers) J) J ?_;refine Wz [18] ?_;refine zx (Qj J J (hc_Wires) J) J ?_;refine Wz [18] ?_;refine zx (Qj J J (hc_Paces) J) J ?_;refine Wz [18] ?_;refine zx (Qj J J (hc_Acks) J) J ?_;refine Wz [106,21] ?_
  exact Xi J J (Xt [] (by decide) J J (Xk (by rw[Z4 (by omega)])))
 rw[Z5 (by omega)] at hc_Acks
 have hb_Acks:decide (left-Enc.wt x.Level-Enc.wt x.Scripts-Enc.wt x.Peers-Enc.wt x.Wires-Enc.wt x.Paces-Enc.wt x.Acks<0)=false:=Gqa (by omega)
 have hc_Watchers:=sz_SpectatorS x.Watchers (left-Enc.wt x.Level-Enc.wt x.Scripts-Enc.wt x.Peers-Enc.wt x.Wires-Enc.wt x.Paces-Enc.wt x.Acks) g_Watchers (by omega) (by omega)
 by_cases n_Watchers:left-Enc.wt x.Level-Enc.wt x.Scripts-Enc.wt x.Peers-Enc.wt x.Wires-Enc.wt x.Paces-Enc.wt x.Acks<Enc.wt x.Watchers
 ·rw[Z4 n_Watchers] at hc_Watchers
  refine Con.of Tryz.func39 J Tryz.ntmps39 J (fun E => ?_)
  refine Wz [19,79] ?_;refine zx (Qj J J (hc_Level) J) J ?_;refine Wz [18] ?_;refine zx (Qj J J (hc_Scripts) J) J ?_;refine Wz [18] ?_;refine zx (Qj J J (hc_Peers) J) J ?_;refine Wz [18] ?_;refine zx (Qj J J (hc_Wires) J) J ?_;refine Wz [18] ?_;refine zx (Qj J J (hc_Paces) J) J ?_;refine Wz [18] ?_;refine zx (Qj J J (hc_Acks) J) J ?_;refine Wz [18] ?_;refine zx (Qj J J (hc_Watchers) J) J ?_;refine Wz [106,21] ?_
  exact Xi J J (Xt [] (by decide) J J (Xk (by rw[Z4 (by omega)])))
 rw[Z5 (by omega)] at hc_Watchers
 have hb_Watchers:decide (left-Enc.wt x.Level-Enc.wt x.Scripts-Enc.wt x.Peers-Enc.wt x.Wires-Enc.wt x.Paces-Enc.wt x.Acks-Enc.wt x.Watchers<0)=false:=Gqa (by omega)
 have hc_Lines:=sz_WireS x.Lines (left-Enc.wt x.Level-Enc.wt x.Scripts-Enc.wt x.Peers-Enc.wt x.Wires-Enc.wt x.Paces-Enc.wt x.Acks-Enc.wt x.Watchers) g_Lines (by omega) (by omega)
 by_cases n_Lines:left-Enc.wt x.Level-Enc.wt x.Scripts-Enc.wt x.Peers-Enc.wt x.Wires-Enc.wt x.Paces-Enc.wt x.Acks-Enc.wt x.Watchers<Enc.wt x.Lines
 ·rw[Z4 n_Lines] at hc_Lines
  refine Con.of Tryz.func39 J Tryz.ntmps39 J (fun E => ?_)
  refine Wz [19,79] ?_;refine zx (Qj J J (hc_Level) J) J ?_;refine Wz [18] ?_;refine zx (Qj J J (hc_Scripts) J) J ?_;refine Wz [18] ?_;refine zx (Qj J J (hc_Peers) J) J ?_;refine Wz [18] ?_;refine zx (Qj J J (hc_Wires) J) J ?_;refine Wz [18] ?_;refine zx (Qj J J (hc_Paces) J) J ?_;refine Wz [18] ?_;refine zx (Qj J J (hc_Acks) J) J ?_;refine Wz [18] ?_;refine zx (Qj J J (hc_Watchers) J) J ?_;refine Wz [18] ?_;refine zx (Qj J J (hc_Lines) J) J ?_;refine Wz [106,21] ?_
  exact Xi J J (Xt [] (by decide) J J (Xk (by rw[Z4 (by omega)])))
 rw[Z5 (by omega)] at hc_Lines
 have hb_Lines:decide (left-Enc.wt x.Level-Enc.wt x.Scripts-Enc.wt x.Peers-Enc.wt x.Wires-Enc.wt x.Paces-Enc.wt x.Acks-Enc.wt x.Watchers-Enc.wt x.Lines<0)=false:=Gqa (by omega)
 have hc_Alarms:=sz_AlarmS x.Alarms (left-Enc.wt x.Level-Enc.wt x.Scripts-Enc.wt x.Peers-Enc.wt x.Wires-Enc.wt x.Paces-Enc.wt x.Acks-Enc.wt x.Watchers-Enc.wt x.Lines) g_Alarms (by omega) (by omega)
 by_cases n_Alarms:left-Enc.wt x.Level-Enc.wt x.Scripts-Enc.wt x.Peers-Enc.wt x.Wires-Enc.wt x.Paces-Enc.wt x.Acks-Enc.wt x.Watchers-Enc.wt x.Lines<Enc.wt x.Alarms
 ·rw[Z4 n_Alarms] at hc_Alarms
  refine Con.of Tryz.func39 J Tryz.ntmps39 J (fun E => ?_)
  refine Wz [19,79] ?_;refine zx (Qj J J (hc_Level) J) J ?_;refine Wz [18] ?_;refine zx (Qj J J (hc_Scripts) J) J ?_;refine Wz [18] ?_;refine zx (Qj J J (hc_Peers) J) J ?_;refine Wz [18] ?_;refine zx (Qj J J (hc_Wires) J) J ?_;refine Wz [18] ?_;refine zx (Qj J J (hc_Paces) J) J ?_;refine Wz [18] ?_;refine zx (Qj J J (hc_Acks) J) J ?_;refine Wz [18] ?_;refine zx (Qj J J (hc_Watchers) J) J ?_;refine Wz [18] ?_;refine zx (Qj J J (hc_Lines) J) J ?_;refine Wz [18] ?_;refine zx (Qj J J (hc_Alarms) J) J ?_;refine Wz [106,21] ?_
  exact Xi J J (Xt [] (by decide) J J (Xk (by rw[Z4 (by omega)])))
 rw[Z5 (by omega)] at hc_Alarms
 have hb_Alarms:decide (left-Enc.wt x.Level-Enc.wt x.Scripts-Enc.wt x.Peers-Enc.wt x.Wires-Enc.wt x.Paces-Enc.wt x.Acks-Enc.wt x.Watchers-Enc.wt x.Lines-Enc.wt x.Alarms<0)=false:=Gqa (by omega)
 refine Con.of Tryz.func39 J Tryz.ntmps39 J (fun E => ?_)
 refine Wz [19,79] ?_;refine zx (Qj J J (hc_Level) J) J ?_;refine Wz [18] ?_;refine zx (Qj J J (hc_Scripts) J) J ?_;refine Wz [18] ?_;refine zx (Qj J J (hc_Peers) J) J ?_;refine Wz [18] ?_;refine zx (Qj J J (hc_Wires) J) J ?_;refine Wz [18] ?_;refine zx (Qj J J (hc_Paces) J) J ?_;refine Wz [18] ?_;refine zx (Qj J J (hc_Acks) J) J ?_;refine Wz [18] ?_;refine zx (Qj J J (hc_Watchers) J) J ?_;refine Wz [18] ?_;refine zx (Qj J J (hc_Lines) J) J ?_;refine Wz [18] ?_;refine zx (Qj J J (hc_Alarms) J) J ?_;refine Wz [48,141] ?_
 exact Xi J J (Xt [] (by decide) J J (Xk (by rw[Z5 (by omega)]; omega)))
theorem eq_Match (x y:TMatch) (hg:Enc.gd x):Con Tryz.prog 19 [] [ag x,ag y] [] (B (decide (x=y))):=by
 obtain⟨g_Level,g_Seed,g_Delay,g_Scripts,g_Peers,g_Wires,g_Paces,g_Acks,g_Clock,g_Watchers,g_Lines,g_Alarms,g_Bad⟩:=hg
 by_cases e_Level:¬x.Level=y.Level
 ·have hc:=eq_Level x.Level y.Level g_Level
  rw[Gqa e_Level] at hc
  refine Con.of Tryz.func19 J Tryz.ntmps19 J (fun E => ?_)
  refine Wz [64,51] ?_;refine zx (Qj J J (hc) J) J ?_;refine Wz [10,21] ?_
  exact Xi J J (Xt [] (by decide) J J (Xf (Gqa fun e=>e_Level (by rw[e])).symm))
 have e_Level:=Classical.not_not.1 e_Level
 have hc_Level:=eq_Level x.Level y.Level g_Level
 rw[Gqb e_Level] at hc_Level
 by_cases e_Seed:¬x.Seed=y.Seed
 ·have hk:decide (x.Seed≠y.Seed)=true:=by simp[e_Seed]
  refine Con.of Tryz.func19 J Tryz.ntmps19 J (fun E => ?_)
  refine Wz [64,51] ?_;refine zx (Qj J J (hc_Level) J) J ?_;refine Wz [6,29] ?_
  exact Xi J J (Xt [] (by decide) J J (Xf (Gqa fun e=>e_Seed (by rw[e])).symm))
 have e_Seed:=Classical.not_not.1 e_Seed
 have k_Seed:decide (x.Seed≠y.Seed)=false:=by simp[e_Seed]
 by_cases e_Delay:¬x.Delay=y.Delay
 ·have hk:decide (x.Delay≠y.Delay)=true:=by simp[e_Delay]
  refine Con.of Tryz.func19 J Tryz.ntmps19 J (fun E => ?_)
  refine Wz [64,51] ?_;refine zx (Qj J J (hc_Level) J) J ?_;refine Wz [6,89,29] ?_
  exact Xi J J (Xt [] (by decide) J J (Xf (Gqa fun e=>e_Delay (by rw[e])).symm))
 have e_Delay:=Classical.not_not.1 e_Delay
 have k_Delay:decide (x.Delay≠y.Delay)=false:=by simp[e_Delay]
 by_cases e_Scripts:¬x.Scripts=y.Scripts
 ·have hc:=eq_IntSS x.Scripts y.Scripts g_Scripts
  rw[Gqa e_Scripts] at hc
  refine Con.of Tryz.func19 J Tryz.ntmps19 J (fun E => ?_)
  refine Wz [64,51] ?_;refine zx (Qj J J (hc_Level) J) J ?_;refine Wz [6,98] ?_;refine zx (Qj J J (hc) J) J ?_;refine Wz [10,21] ?_
  exact Xi J J (Xt [] (by decide) J J (Xf (Gqa fun e=>e_Scripts (by rw[e])).symm))
 have e_Scripts:=Classical.not_not.1 e_Scripts
 have hc_Scripts:=eq_IntSS x.Scripts y.Scripts g_Scripts
 rw[Gqb e_Scripts] at hc_Scripts
 by_cases e_Peers:¬x.Peers=y.Peers
 ·have hc:=eq_PeerS x.Peers y.Peers g_Peers
  rw[Gqa e_Peers] at hc
  refine Con.of Tryz.func19 J Tryz.ntmps19 J (fun E => ?_)
  refine Wz [64,51] ?_;refine zx (Qj J J (hc_Level) J) J ?_;refine Wz [6,98] ?_;refine zx (Qj J J (hc_Scripts) J) J ?_;refine Wz [6] ?_;refine zx (Qj J J (hc) J) J ?_;refine Wz [10,21] ?_
  exact Xi J J (Xt [] (by decide) J J (Xf (Gqa fun e=>e_Peers (by rw[e])).symm))
 have e_Peers:=Classical.not_not.1 e_Peers
 have hc_Peers:=eq_PeerS x.Peers y.Peers g_Peers
 rw[Gqb e_Peers] at hc_Peers
 by_cases e_Wires:¬x.Wires=y.Wires
 ·have hc:=eq_WireSS x.Wires y.Wires g_Wires
  rw[Gqa e_Wires] at hc
  refine Con.of Tryz.func19 J Tryz.ntmps19 J (fun E => ?_)
  refine Wz [64,51] ?_;refine zx (Qj J J (hc_Level) J) J ?_;refine Wz [6,98] ?_;refine zx (Qj J J (hc_Scripts) J) J ?_;refine Wz [6] ?_;refine zx (Qj J J (hc_Peers) J) J ?_;refine Wz [6] ?_;refine zx (Qj J J (hc) J) J ?_;refine Wz [10,21] ?_
  exact Xi J J (Xt [] (by decide) J J (Xf (Gqa fun e=>e_Wires (by rw[e])).symm))
 have e_Wires:=Classical.not_not.1 e_Wires
 have hc_Wires:=eq_WireSS x.Wires y.Wires g_Wires
 rw[Gqb e_Wires] at hc_Wires
 by_cases e_Paces:¬x.Paces=y.Paces
 ·have hc:=eq_PaceSS x.Paces y.Paces g_Paces
  rw[Gqa e_Paces] at hc
  refine Con.of Tryz.func19 J Tryz.ntmps19 J (fun E => ?_)
  refine Wz [64,51] ?_;refine zx (Qj J J (hc_Level) J) J ?_;refine Wz [6,98] ?_;refine zx (Qj J J (hc_Scripts) J) J ?_;refine Wz [6] ?_;refine zx (Qj J J (hc_Peers) J) J ?_;refine Wz [6] ?_;refine zx (Qj J J (hc_Wires) J) J ?_;refine Wz [6] ?_;refine zx (Qj J J (hc) J) J ?_;refine Wz [10,21] ?_
  exact Xi J J (Xt [] (by decide) J J (Xf (Gqa fun e=>e_Paces (by rw[e])).symm))
 have e_Paces:=Classical.not_not.1 e_Paces
 have hc_Paces:=eq_PaceSS x.Paces y.Paces g_Paces
 rw[Gqb e_Paces] at hc_Paces
 by_cases e_Acks:¬x.Acks=y.Acks
 ·have hc:=eq_IntSS x.Acks y.Acks g_Acks
  rw[Gqa e_Acks] at hc
  refine Con.of Tryz.func19 J Tryz.ntmps19 J (fun E => ?_)
  refine Wz [64,51] ?_;refine zx (Qj J J (hc_Level) J) J ?_;refine Wz [6,98] ?_;refine zx (Qj J J (hc_Scripts) J) J ?_;refine Wz [6] ?_;refine zx (Qj J J (hc_Peers) J) J ?_;refine Wz [6] ?_;refine zx (Qj J J (hc_Wires) J) J ?_;refine Wz [6] ?_;refine zx (Qj J J (hc_Paces) J) J ?_;refine Wz [6] ?_;refine zx (Qj J J (hc) J) J ?_;refine Wz [10,21] ?_
  exact Xi J J (Xt [] (by decide) J J (Xf (Gqa fun e=>e_Acks (by rw[e])).symm))
 have e_Acks:=Classical.not_not.1 e_Acks
 have hc_Acks:=eq_IntSS x.Acks y.Acks g_Acks
 rw[Gqb e_Acks] at hc_Acks
 by_cases e_Clock:¬x.Clock=y.Clock
 ·have hk:decide (x.Clock≠y.Clock)=true:=by simp[e_Clock]
  refine Con.of Tryz.func19 J Tryz.ntmps19 J (fun E => ?_)
  refine Wz [64,51] ?_;refine zx (Qj J J (hc_Level) J) J ?_;refine Wz [6,98] ?_;refine zx (Qj J J (hc_Scripts) J) J ?_;refine Wz [6] ?_;refine zx (Qj J J (hc_Peers) J) J ?_;refine Wz [6] ?_;refine zx (Qj J J (hc_Wires) J) J ?_;refine Wz [6] ?_;refine zx (Qj J J (hc_Paces) J) J ?_;refine Wz [6] ?_;refine zx (Qj J J (hc_Acks) J) J ?_;refine Wz [6,29] ?_
  exact Xi J J (Xt [] (by decide) J J (Xf (Gqa fun e=>e_Clock (by rw[e])).symm))
 have e_Clock:=Classical.not_not.1 e_Clock
 have k_Clock:decide (x.Clock≠y.Clock)=false:=by simp[e_Clock]
 by_cases e_Watchers:¬x.Watchers=y.Watchers
 ·have hc:=eq_SpectatorS x.Watchers y.Watchers g_Watchers
  rw[Gqa e_Watchers] at hc
  refine Con.of Tryz.func19 J Tryz.ntmps19 J (fun E => ?_)
  refine Wz [64,51] ?_;refine zx (Qj J J (hc_Level) J) J ?_;refine Wz [6,98] ?_;refine zx (Qj J J (hc_Scripts) J) J ?_;refine Wz [6] ?_;refine zx (Qj J J (hc_Peers) J) J ?_;refine Wz [6] ?_;refine zx (Qj J J (hc_Wires) J) J ?_;refine Wz [6] ?_;refine zx (Qj J J (hc_Paces) J) J ?_;refine Wz [6] ?_;refine zx (Qj J J (hc_Acks) J) J ?_;refine Wz [6,89] ?_;refine zx (Qj J J (hc) J) J ?_;refine Wz [10,21] ?_
  exact Xi J J (Xt [] (by decide) J J (Xf (Gqa fun e=>e_Watchers (by rw[e])).symm))
 have e_Watchers:=Classical.not_not.1 e_Watchers
 have hc_Watchers:=eq_SpectatorS x.Watchers y.Watchers g_Watchers
 rw[Gqb e_Watchers] at hc_Watchers
 by_cases e_Lines:¬x.Lines=y.Lines
 ·have hc:=eq_WireS x.Lines y.Lines g_Lines
  rw[Gqa e_Lines] at hc
  refine Con.of Tryz.func19 J Tryz.ntmps19 J (fun E => ?_)
  refine Wz [64,51] ?_;refine zx (Qj J J (hc_Level) J) J ?_;refine Wz [6,98] ?_;refine zx (Qj J J (hc_Scripts) J) J ?_;refine Wz [6] ?_;refine zx (Qj J J (hc_Peers) J) J ?_;refine Wz [6] ?_;refine zx (Qj J J (hc_Wires) J) J ?_;refine Wz [6] ?_;refine zx (Qj J J (hc_Paces) J) J ?_;refine Wz [6] ?_;refine zx (Qj J J (hc_Acks) J) J ?_;refine Wz [6,89] ?_;refine zx (Qj J J (hc_Watchers) J) J ?_;refine Wz [6] ?_;refine zx (Qj J J (hc) J) J ?_;refine Wz [10,21] ?_
  exact Xi J J (Xt [] (by decide) J J (Xf (Gqa fun e=>e_Lines (by rw[e])).symm))
 have e_Lines:=Classical.not_not.1 e_Lines
 have hc_Lines:=eq_WireS x.Lines y.Lines g_Lines
 rw[Gqb e_Lines] at hc_Lines
 by_cases e_Alarms:¬x.Alarms=y.Alarms
 ·have hc:=eq_AlarmS x.Alarms y.Alarms g_Alarms
  rw[Gqa e_Alarms] at hc
  refine Con.of Tryz.func19 J Tryz.ntmps19 J (fun E => ?_)
  refine Wz [64,51] ?_;refine zx (Qj J J (hc_Level) J) J ?_;refine Wz [6,98] ?_;refine zx (Qj J J (hc_Scripts) J) J ?_;refine Wz [6] ?_;refine zx (Qj J J (hc_Peers) J) J ?_;refine Wz [6] ?_;refine zx (Qj J J (hc_Wires) J) J ?_;refine Wz [6] ?_;refine zx (Qj J J (hc_Paces) J) J ?_;refine Wz [6] ?_;refine zx (Qj J J (hc_Acks) J) J ?_;refine Wz [6,89] ?_;refine zx (Qj J J (hc_Watchers) J) J ?_;refine Wz [6] ?_;refine zx (Qj J J (hc_Lines) J) J ?_;refine Wz [6] ?_;refine zx (Qj J J (hc) J) J ?_;refine Wz [10,21] ?_
  exact Xi J J (Xt [] (by decide) J J (Xf (Gqa fun e=>e_Alarms (by rw[e])).symm))
 have e_Alarms:=Classical.not_not.1 e_Alarms
 have hc_Alarms:=eq_AlarmS x.Alarms y.Alarms g_Alarms
 rw[Gqb e_Alarms] at hc_Alarms
 by_cases e_Bad:¬x.Bad=y.Bad
 ·have hk:decide (x.Bad≠y.Bad)=true:=by simp[e_Bad]
  refine Con.of Tryz.func19 J Tryz.ntmps19 J (fun E => ?_)
  refine Wz [64,51] ?_;refine zx (Qj J J (hc_Level) J) J ?_;refine Wz [6,98] ?_;refine zx (Qj J J (hc_Scripts) J) J ?_;refine Wz [6] ?_;refine zx (Qj J J (hc_Peers) J) J ?_;refine Wz [6] ?_;refine zx (Qj J J (hc_Wires) J) J ?_;refine Wz [6] ?_;refine zx (Qj J J (hc_Paces) J) J ?_;refine Wz [6] ?_;refine zx (Qj J J (hc_Acks) J) J ?_;refine Wz [6,89] ?_;refine zx (Qj J J (hc_Watchers) J) J ?_;refine Wz [6] ?_;refine zx (Qj J J (hc_Lines) J) J ?_;refine Wz [6] ?_;refine zx (Qj J J (hc_Alarms) J) J ?_;refine Wz [6,29] ?_
  exact Xi J J (Xt [] (by decide) J J (Xf (Gqa fun e=>e_Bad (by rw[e])).symm))
 have e_Bad:=Classical.not_not.1 e_Bad
 have k_Bad:decide (x.Bad≠y.Bad)=false:=by simp[e_Bad]
 refine Con.of Tryz.func19 J Tryz.ntmps19 J (fun E => ?_)
 refine Wz [64,51] ?_;refine zx (Qj J J (hc_Level) J) J ?_;refine Wz [6,98] ?_;refine zx (Qj J J (hc_Scripts) J) J ?_;refine Wz [6] ?_;refine zx (Qj J J (hc_Peers) J) J ?_;refine Wz [6] ?_;refine zx (Qj J J (hc_Wires) J) J ?_;refine Wz [6] ?_;refine zx (Qj J J (hc_Paces) J) J ?_;refine Wz [6] ?_;refine zx (Qj J J (hc_Acks) J) J ?_;refine Wz [6,89] ?_;refine zx (Qj J J (hc_Watchers) J) J ?_;refine Wz [6] ?_;refine zx (Qj J J (hc_Lines) J) J ?_;refine Wz [6] ?_;refine zx (Qj J J (hc_Alarms) J) J ?_;refine Wz [6,105,53,47] ?_
 exact Xi J J (Xt [] (by decide) J J (Xf (Gqb (TMatch.same e_Level e_Seed e_Delay e_Scripts e_Peers e_Wires e_Paces e_Acks e_Clock e_Watchers e_Lines e_Alarms e_Bad)).symm))
end
end Go.Proofs.YtoecjaohdnoenaaGreat
