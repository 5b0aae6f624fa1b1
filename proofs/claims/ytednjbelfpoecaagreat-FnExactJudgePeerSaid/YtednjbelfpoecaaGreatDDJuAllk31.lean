/-
  Rules, data and contracts of functions: part 32 of the proof.
  Conditions: those that each theorem names.
-/
import Derived.Test.YtednjbelfpoecaaGreatDDJuAllk29
import Derived.Test.YtednjbelfpoecaaGreatDDJuAllk30
set_option linter.unusedVariables false
set_option linter.unusedSimpArgs false
set_option maxRecDepth 8000
set_option maxHeartbeats 8000000
namespace Go.Proofs.YtednjbelfpoecaaGreat
section
open Go.RowKit

theorem to_Match (x:TMatch) (hg:Enc.wt x≤1048576):Con Tryz.prog 43 [] [ag x] [.row 1 (els x.Level.Rows),.row 1 (els x.Scripts),.row 23 (els x.Peers),.row 1 (els x.Wires),.row 1 (els x.Paces),.row 1 (els x.Acks),.row 6 (els x.Watchers),.row 10 (els x.Lines),.row 2 (els x.Alarms)] (.o (.ag [.ref 0,.rd [] (.v (.int .i64 x.Seed)),.rd [] (.v (.int .i64 x.Delay)),.ref 1,.ref 2,.ref 3,.ref 4,.ref 5,.rd [] (.v (.int .i64 x.Clock)),.ref 6,.ref 7,.ref 8,.rd [] (.v (.int .i64 x.Bad))])):=by
 have hw:Enc.wt x=Enc.wt x.Level+Enc.wt x.Scripts+Enc.wt x.Peers+Enc.wt x.Wires+Enc.wt x.Paces+Enc.wt x.Acks+Enc.wt x.Watchers+Enc.wt x.Lines+Enc.wt x.Alarms:=rfl
 refine Con.of Tryz.func43 J Tryz.ntmps43 J (fun E => ?_)
 refine Wz [74,62,2,62,63] ?_;refine AL.weak (st':=(⟨_,[(1,.o (.c (.ptr 0 0))),(2,.o (.c (.ptr 1 0))),(3,.o (.c (.ptr 2 0))),(5,.o (.ag ((Enc.e x.Level).map (V1.rd []))))],[.box ((Enc.e x).map (V1.rd [])),.box [.rd [] (.v (.slice none 0 0)),.rd [] (.v (.int .i64 0)),.rd [] (.v (.int .i64 0)),.rd [] (.v (.slice none 0 0)),.rd [] (.v (.slice none 0 0)),.rd [] (.v (.slice none 0 0)),.rd [] (.v (.slice none 0 0)),.rd [] (.v (.slice none 0 0)),.rd [] (.v (.int .i64 0)),.rd [] (.v (.slice none 0 0)),.rd [] (.v (.slice none 0 0)),.rd [] (.v (.slice none 0 0)),.rd [] (.v (.int .i64 0))],.box [.rd [] (.v (.slice none 0 0)),.rd [] (.v (.int .i64 0)),.rd [] (.v (.int .i64 0)),.rd [] (.v (.slice none 0 0)),.rd [] (.v (.slice none 0 0)),.rd [] (.v (.slice none 0 0)),.rd [] (.v (.slice none 0 0)),.rd [] (.v (.slice none 0 0)),.rd [] (.v (.int .i64 0)),.rd [] (.v (.slice none 0 0)),.rd [] (.v (.slice none 0 0)),.rd [] (.v (.slice none 0 0)),.rd [] (.v (.int .i64 0))]]⟩:St)) (V8 [0,1,2]) ?_;refine M1 (Za J J (to_Level x.Level (by omega)) J J J) J J ?_;refine Wz [159,39,23,67,67] ?_;refine AL.weak (st':=(⟨_,[(1,.o (.c (.ptr 0 0))),(2,.o (.c (.ptr 1 0))),(3,.o (.c (.ptr 2 0))),(15,L x.Scripts)],[.box ((Enc.e x).map (V1.rd [])),.box [.rd [] (.v (.slice none 0 0)),.rd [] (.v (.int .i64 0)),.rd [] (.v (.int .i64 0)),.rd [] (.v (.slice none 0 0)),.rd [] (.v (.slice none 0 0)),.rd [] (.v (.slice none 0 0)),.rd [] (.v (.slice none 0 0)),.rd [] (.v (.slice none 0 0)),.rd [] (.v (.int .i64 0)),.rd [] (.v (.slice none 0 0)),.rd [] (.v (.slice none 0 0)),.rd [] (.v (.slice none 0 0)),.rd [] (.v (.int .i64 0))],.box [.ref 3,.rd [] (.v (.int .i64 x.Seed)),.rd [] (.v (.int .i64 x.Delay)),.rd [] (.v (.slice none 0 0)),.rd [] (.v (.slice none 0 0)),.rd [] (.v (.slice none 0 0)),.rd [] (.v (.slice none 0 0)),.rd [] (.v (.slice none 0 0)),.rd [] (.v (.int .i64 0)),.rd [] (.v (.slice none 0 0)),.rd [] (.v (.slice none 0 0)),.rd [] (.v (.slice none 0 0)),.rd [] (.v (.int .i64 0))],.row 1 (els x.Level.Rows)]⟩:St)) (V8 [0,1,2,3]) ?_;refine M1 (Za J J (to_IntSS x.Scripts (by omega)) J J J) J J ?_;refine Wz [67] ?_;refine AL.weak (st':=(⟨_,[(1,.o (.c (.ptr 0 0))),(2,.o (.c (.ptr 1 0))),(3,.o (.c (.ptr 2 0))),(19,L x.Peers)],[.box ((Enc.e x).map (V1.rd [])),.box [.rd [] (.v (.slice none 0 0)),.rd [] (.v (.int .i64 0)),.rd [] (.v (.int .i64 0)),.rd [] (.v (.slice none 0 0)),.rd [] (.v (.slice none 0 0)),.rd [] (.v (.slice none 0 0)),.rd [] (.v (.slice none 0 0)),.rd [] (.v (.slice none 0 0)),.rd [] (.v (.int .i64 0)),.rd [] (.v (.slice none 0 0)),.rd [] (.v (.slice none 0 0)),.rd [] (.v (.slice none 0 0)),.rd [] (.v (.int .i64 0))],.box [.ref 3,.rd [] (.v (.int .i64 x.Seed)),.rd [] (.v (.int .i64 x.Delay)),.ref 4,.rd [] (.v (.slice none 0 0)),.rd [] (.v (.slice none 0 0)),.rd [] (.v (.slice none 0 0)),.rd [] (.v (.slice none 0 0)),.rd [] (.v (.int .i64 0)),.rd [] (.v (.slice none 0 0)),.rd [] (.v (.slice none 0 0)),.rd [] (.v (.slice none 0 0)),.rd [] (.v (.int .i64 0))],.row 1 (els x.Level.Rows),.row 1 (els x.Scripts)]⟩:St)) (V8 [0,1,2,3,4]) ?_;refine M1 (Za J J (to_PeerS x.Peers (by omega)) J J J) J J ?_;refine Wz [67] ?_;refine AL.weak (st':=(⟨_,[(1,.o (.c (.ptr 0 0))),(2,.o (.c (.ptr 1 0))),(3,.o (.c (.ptr 2 0))),(23,L x.Wires)],[.box ((Enc.e x).map (V1.rd [])),.box [.rd [] (.v (.slice none 0 0)),.rd [] (.v (.int .i64 0)),.rd [] (.v (.int .i64 0)),.rd [] (.v (.slice none 0 0)),.rd [] (.v (.slice none 0 0)),.rd [] (.v (.slice none 0 0)),.rd [] (.v (.slice none 0 0)),.rd [] (.v (.slice none 0 0)),.rd [] (.v (.int .i64 0)),.rd [] (.v (.slice none 0 0)),.rd [] (.v (.slice none 0 0)),.rd [] (.v (.slice none 0 0)),.rd [] (.v (.int .i64 0))],.box [.ref 3,.rd [] (.v (.int .i64 x.Seed)),.rd [] (.v (.int .i64 x.Delay)),.ref 4,.ref 5,.rd [] (.v (.slice none 0 0)),.rd [] (.v (.slice none 0 0)),.rd [] (.v (.slice none 0 0)),.rd [] (.v (.int .i64 0)),.rd [] (.v (.slice none 0 0)),.rd [] (.v (.slice none 0 0)),.rd [] (.v (.slice none 0 0)),.rd [] (.v (.int .i64 0))],.row 1 (els x.Level.Rows),.row 1 (els x.Scripts),.row 23 (els x.Peers)]⟩:St)) (V8 [0,1,2,3,4,5]) ?_;refine M1 (Za J J (to_WireSS x.Wires (by omega)) J J J) J J ?_;refine Wz [67] ?_;refine AL.weak (st':=(⟨_,[(1,.o (.c (.ptr 0 0))),(2,.o (.c (.ptr 1 0))),(3,.o (.c (.ptr 2 0))),(27,L x.Paces)],[.box ((Enc.e x).map (V1.rd [])),.box [.rd [] (.v (.slice none 0 0)),.rd [] (.v (.int .i64 0)),.rd [] (.v (.int .i64 0)),.rd [] (.v (.slice none 0 0)),.rd [] (.v (.slice none 0 0)),.rd [] (.v (.slice none 0 0)),.rd [] (.v (.slice none 0 0)),.rd [] (.v (.slice none 0 0)),.rd [] (.v (.int .i64 0)),.rd [] (.v (.slice none 0 0)),.rd [] (.v (.slice none 0 0)),.rd [] (.v (.slice none 0 0)),.rd [] (.v (.int .i64 0))],.box [.ref 3,.rd [] (.v (.int .i64 x.Seed)),.rd [] (.v (.int .i64 x.Delay)),.ref 4,.ref 5,.ref 6,.rd [] (.v (.slice none 0 0)),.rd [] (.v (.slice none 0 0)),.rd [] (.v (.int .i64 0)),.rd [] (.v (.slice none 0 0)),.rd [] (.v (.slice none 0 0)),.rd [] (.v (.slice none 0 0)),.rd [] (.v (.int .i64 0))],.row 1 (els x.Level.Rows),.row 1 (els x.Scripts),.row 23 (els x.Peers),.row 1 (els x.Wires)]⟩:St)) (V8 [0,1,2,3,4,5,6]) ?_;refine M1 (Za J J (to_PaceSS x.Paces (by omega)) J J J) J J ?_;refine Wz [67] ?_;refine AL.weak (st':=(⟨_,[(1,.o (.c (.ptr 0 0))),(2,.o (.c (.ptr 1 0))),(3,.o (.c (.ptr 2 0))),(31,L x.Acks)],[.box ((Enc.e x).map (V1.rd [])),.box [.rd [] (.v (.slice none 0 0)),.rd [] (.v (.int .i64 0)),.rd [] (.v (.int .i64 0)),.rd [] (.v (.slice none 0 0)),.rd [] (.v (.slice none 0 0)),.rd [] (.v (.slice none 0 0)),.rd [] (.v (.slice none 0 0)),.rd [] (.v (.slice none 0 0)),.rd [] (.v (.int .i64 0)),.rd [] (.v (.slice none 0 0)),.rd [] (.v (.slice none 0 0)),.rd [] (.v (.slice none 0 0)),.rd [] (.v (.int .i64 0))],.box [.ref 3,.rd [] (.v (.int .i64 x.Seed)),.rd [] (.v (.int .i64 x.Delay)),.ref 4,.ref 5,.ref 6,.ref 7,.rd [] (.v (.slice none 0 0)),.rd [] (.v (.int .i64 0)),.rd [] (.v (.slice none 0 0)),.rd [] (.v (.slice none 0 0)),.rd [] (.v (.slice none 0 0)),.rd [] (.v (.int .i64 0))],.row 1 (els x.Level.Rows),.row 1 (els x.Scripts),.row 23 (els x.Peers),.row 1 (els x.Wires),.row 1 (els x.Paces)]⟩:St)) (V8 [0,1,2,3,4,5,6,7]) ?_;refine M1 (Za J J (to_IntSS x.Acks (by omega)) J J J) J J ?_;refine Wz [67,67] ?_;refine AL.weak (st':=(⟨_,[(1,.o (.c (.ptr 0 0))),(2,.o (.c (.ptr 1 0))),(3,.o (.c (.ptr 2 0))),(38,L x.Watchers)],[.box ((Enc.e x).map (V1.rd [])),.box [.rd [] (.v (.slice none 0 0)),.rd [] (.v (.int .i64 0)),.rd [] (.v (.int .i64 0)),.rd [] (.v (.slice none 0 0)),.rd [] (.v (.slice none 0 0)),.rd [] (.v (.slice none 0 0)),.rd [] (.v (.slice none 0 0)),.rd [] (.v (.slice none 0 0)),.rd [] (.v (.int .i64 0)),.rd [] (.v (.slice none 0 0)),.rd [] (.v (.slice none 0 0)),.rd [] (.v (.slice none 0 0)),.rd [] (.v (.int .i64 0))],.box [.ref 3,.rd [] (.v (.int .i64 x.Seed)),.rd [] (.v (.int .i64 x.Delay)),.ref 4,.ref 5,.ref 6,.ref 7,.ref 8,.rd [] (.v (.int .i64 x.Clock)),.rd [] (.v (.slice none 0 0)),.rd [] (.v (.slice none 0 0)),.rd [] (.v (.slice none 0 0)),.rd [] (.v (.int .i64 0))],.row 1 (els x.Level.Rows),.row 1 (els x.Scripts),.row 23 (els x.Peers),.row 1 (els x.Wires),.row 1 (els x.Paces),.row 1 (els x.Acks)]⟩:St)) (V8 [0,1,2,3,4,5,6,7,8]) ?_;refine M1 (Za J J (to_SpectatorS x.Watchers (by omega)) J J J) J J ?_;refine Wz [67] ?_;refine AL.weak (st':=(⟨_,[(1,.o (.c (.ptr 0 0))),(2,.o (.c (.ptr 1 0))),(3,.o (.c (.ptr 2 0))),(42,L x.Lines)],[.box ((Enc.e x).map (V1.rd [])),.box [.rd [] (.v (.slice none 0 0)),.rd [] (.v (.int .i64 0)),.rd [] (.v (.int .i64 0)),.rd [] (.v (.slice none 0 0)),.rd [] (.v (.slice none 0 0)),.rd [] (.v (.slice none 0 0)),.rd [] (.v (.slice none 0 0)),.rd [] (.v (.slice none 0 0)),.rd [] (.v (.int .i64 0)),.rd [] (.v (.slice none 0 0)),.rd [] (.v (.slice none 0 0)),.rd [] (.v (.slice none 0 0)),.rd [] (.v (.int .i64 0))],.box [.ref 3,.rd [] (.v (.int .i64 x.Seed)),.rd [] (.v (.int .i64 x.Delay)),.ref 4,.ref 5,.ref 6,.ref 7,.ref 8,.rd [] (.v (.int .i64 x.Clock)),.ref 9,.rd [] (.v (.slice none 0 0)),.rd [] (.v (.slice none 0 0)),.rd [] (.v (.int .i64 0))],.row 1 (els x.Level.Rows),.row 1 (els x.Scripts),.row 23 (els x.Peers),.row 1 (els x.Wires),.row 1 (els x.Paces),.row 1 (els x.Acks),.row 6 (els x.Watchers)]⟩:St)) (V8 [0,1,2,3,4,5,6,7,8,9]) ?_;refine M1 (Za J J (to_WireS x.Lines (by omega)) J J J) J J ?_;refine Wz [67] ?_;refine AL.weak (st':=(⟨_,[(1,.o (.c (.ptr 0 0))),(2,.o (.c (.ptr 1 0))),(3,.o (.c (.ptr 2 0))),(46,L x.Alarms)],[.box ((Enc.e x).map (V1.rd [])),.box [.rd [] (.v (.slice none 0 0)),.rd [] (.v (.int .i64 0)),.rd [] (.v (.int .i64 0)),.rd [] (.v (.slice none 0 0)),.rd [] (.v (.slice none 0 0)),.rd [] (.v (.slice none 0 0)),.rd [] (.v (.slice none 0 0)),.rd [] (.v (.slice none 0 0)),.rd [] (.v (.int .i64 0)),.rd [] (.v (.slice none 0 0)),.rd [] (.v (.slice none 0 0)),.rd [] (.v (.slice none 0 0)),.rd [] (.v (.int .i64 0))],.box [.ref 3,.rd [] (.v (.int .i64 x.Seed)),.rd [] (.v (.int .i64 x.Delay)),.ref 4,.ref 5,.ref 6,.ref 7,.ref 8,.rd [] (.v (.int .i64 x.Clock)),.ref 9,.ref 10,.rd [] (.v (.slice none 0 0)),.rd [] (.v (.int .i64 0))],.row 1 (els x.Level.Rows),.row 1 (els x.Scripts),.row 23 (els x.Peers),.row 1 (els x.Wires),.row 1 (els x.Paces),.row 1 (els x.Acks),.row 6 (els x.Watchers),.row 10 (els x.Lines)]⟩:St)) (V8 [0,1,2,3,4,5,6,7,8,9,10]) ?_;refine M1 (Za J J (to_AlarmS x.Alarms (by omega)) J J J) J J ?_
 refine z2 J J J ?_; first | refine Q5 J J J J J J J J ?_ | refine Qy J J J J J J J J J ?_
 refine Wz [16,23,50,2] ?_;refine AL.weak (st':=(⟨_,[(2,.o (.c (.ptr 1 0))),(3,.o (.c (.ptr 2 0)))],[.box ((Enc.e x).map (V1.rd [])),.box [.rd [] (.v (.slice none 0 0)),.rd [] (.v (.int .i64 0)),.rd [] (.v (.int .i64 0)),.rd [] (.v (.slice none 0 0)),.rd [] (.v (.slice none 0 0)),.rd [] (.v (.slice none 0 0)),.rd [] (.v (.slice none 0 0)),.rd [] (.v (.slice none 0 0)),.rd [] (.v (.int .i64 0)),.rd [] (.v (.slice none 0 0)),.rd [] (.v (.slice none 0 0)),.rd [] (.v (.slice none 0 0)),.rd [] (.v (.int .i64 0))],.box [.ref 3,.rd [] (.v (.int .i64 x.Seed)),.rd [] (.v (.int .i64 x.Delay)),.ref 4,.ref 5,.ref 6,.ref 7,.ref 8,.rd [] (.v (.int .i64 x.Clock)),.ref 9,.ref 10,.ref 11,.rd [] (.v (.int .i64 x.Bad))],.row 1 (els x.Level.Rows),.row 1 (els x.Scripts),.row 23 (els x.Peers),.row 1 (els x.Wires),.row 1 (els x.Paces),.row 1 (els x.Acks),.row 6 (els x.Watchers),.row 10 (els x.Lines),.row 2 (els x.Alarms)]⟩:St)) (Vy [0,1,2,3,4,5,6,7,8,9,10,11] J ((by kernel_rfl)) (.c J (.c J (.nil)))) ?_;refine z4 J J J ?_;refine AL.weak (st':=(⟨_,[(2,.o (.c (.ptr 1 0))),(52,.o (.ag [.ref 3,.rd [] (.v (.int .i64 x.Seed)),.rd [] (.v (.int .i64 x.Delay)),.ref 4,.ref 5,.ref 6,.ref 7,.ref 8,.rd [] (.v (.int .i64 x.Clock)),.ref 9,.ref 10,.ref 11,.rd [] (.v (.int .i64 x.Bad))]))],[.box ((Enc.e x).map (V1.rd [])),.box [.rd [] (.v (.slice none 0 0)),.rd [] (.v (.int .i64 0)),.rd [] (.v (.int .i64 0)),.rd [] (.v (.slice none 0 0)),.rd [] (.v (.slice none 0 0)),.rd [] (.v (.slice none 0 0)),.rd [] (.v (.slice none 0 0)),.rd [] (.v (.slice none 0 0)),.rd [] (.v (.int .i64 0)),.rd [] (.v (.slice none 0 0)),.rd [] (.v (.slice none 0 0)),.rd [] (.v (.slice none 0 0)),.rd [] (.v (.int .i64 0))],.box [.ref 3,.rd [] (.v (.int .i64 x.Seed)),.rd [] (.v (.int .i64 x.Delay)),.ref 4,.ref 5,.ref 6,.ref 7,.ref 8,.rd [] (.v (.int .i64 x.Clock)),.ref 9,.ref 10,.ref 11,.rd [] (.v (.int .i64 x.Bad))],.row 1 (els x.Level.Rows),.row 1 (els x.Scripts),.row 23 (els x.Peers),.row 1 (els x.Wires),.row 1 (els x.Paces),.row 1 (els x.Acks),.row 6 (els x.Watchers),.row 10 (els x.Lines),.row 2 (els x.Alarms)]⟩:St)) (Vy [0,1,2,3,4,5,6,7,8,9,10,11] J ((by kernel_rfl)) (.c J (.c J (.nil)))) ?_;refine Qy J J J J J J J J J ?_;refine AL.weak (st':=(⟨_,[(2,.o (.c (.ptr 1 0)))],[.box ((Enc.e x).map (V1.rd [])),.box [.ref 3,.rd [] (.v (.int .i64 x.Seed)),.rd [] (.v (.int .i64 x.Delay)),.ref 4,.ref 5,.ref 6,.ref 7,.ref 8,.rd [] (.v (.int .i64 x.Clock)),.ref 9,.ref 10,.ref 11,.rd [] (.v (.int .i64 x.Bad))],.box [.ref 3,.rd [] (.v (.int .i64 x.Seed)),.rd [] (.v (.int .i64 x.Delay)),.ref 4,.ref 5,.ref 6,.ref 7,.ref 8,.rd [] (.v (.int .i64 x.Clock)),.ref 9,.ref 10,.ref 11,.rd [] (.v (.int .i64 x.Bad))],.row 1 (els x.Level.Rows),.row 1 (els x.Scripts),.row 23 (els x.Peers),.row 1 (els x.Wires),.row 1 (els x.Paces),.row 1 (els x.Acks),.row 6 (els x.Watchers),.row 10 (els x.Lines),.row 2 (els x.Alarms)]⟩:St)) (Vy [0,1,2,3,4,5,6,7,8,9,10,11] J ((by kernel_rfl)) (.c J (.nil))) ?_;refine Wz [16,84] ?_;refine Xm (cs := [.ref 3,.rd [] (.v (.int .i64 x.Seed)),.rd [] (.v (.int .i64 x.Delay)),.ref 4,.ref 5,.ref 6,.ref 7,.ref 8,.rd [] (.v (.int .i64 x.Clock)),.ref 9,.ref 10,.ref 11,.rd [] (.v (.int .i64 x.Bad))]) J J J J ?_
 exact V0 [3,4,5,6,7,8,9,10,11] J (by kernel_rfl) (by kernel_rfl)
theorem sz_Match (x:TMatch) (left:Int) (hg:Enc.gd x) (h0:0≤left) (h1:left≤1048576):Con Tryz.prog 41 [] [ag x,ai left] [] (I (szr (Enc.wt x) left)):=by
 obtain⟨g_Level,g_Seed,g_Delay,g_Scripts,g_Peers,g_Wires,g_Paces,g_Acks,g_Clock,g_Watchers,g_Lines,g_Alarms,g_Bad⟩:=hg
 have hw:Enc.wt x=Enc.wt x.Level+Enc.wt x.Scripts+Enc.wt x.Peers+Enc.wt x.Wires+Enc.wt x.Paces+Enc.wt x.Acks+Enc.wt x.Watchers+Enc.wt x.Lines+Enc.wt x.Alarms:=rfl
 have hm1:decide ((-1:Int)<0)=true:=rfl
 have hc_Level:=sz_Level x.Level (left) g_Level (by omega) (by omega)
 by_cases n_Level:left<Enc.wt x.Level
 ·rw[Z9 n_Level] at hc_Level
  refine Con.of Tryz.func41 J Tryz.ntmps41 J (fun E => ?_)
  refine Wz [26,63,0] ?_;refine zx (Qj J J (hc_Level) J) J ?_;refine Wz [116,28] ?_
  exact Vz J (V0 [] J J (Xs (by rw[V3])))
 rw[V4] at hc_Level
 have hb_Level:decide (left-Enc.wt x.Level<0)=false:=Gqa (by omega)
 have hc_Scripts:=sz_IntSS x.Scripts (left-Enc.wt x.Level) g_Scripts (by omega) (by omega)
 by_cases n_Scripts:left-Enc.wt x.Level<Enc.wt x.Scripts
 ·rw[Z9 n_Scripts] at hc_Scripts
  refine Con.of Tryz.func41 J Tryz.ntmps41 J (fun E => ?_)
  refine Wz [26,63,0] ?_;refine zx (Qj J J (hc_Level) J) J ?_;refine Wz [47] ?_;refine zx (Qj J J (hc_Scripts) J) J ?_;refine Wz [116,28] ?_
  exact Vz J (V0 [] J J (Xs (by rw[V3])))
 rw[V4] at hc_Scripts
 have hb_Scripts:decide (left-Enc.wt x.Level-Enc.wt x.Scripts<0)=false:=Gqa (by omega)
 have hc_Peers:=sz_PeerS x.Peers (left-Enc.wt x.Level-Enc.wt x.Scripts) g_Peers (by omega) (by omega)
 by_cases n_Peers:left-Enc.wt x.Level-Enc.wt x.Scripts<Enc.wt x.Peers
 ·rw[Z9 n_Peers] at hc_Peers
  refine Con.of Tryz.func41 J Tryz.ntmps41 J (fun E => ?_)
  refine Wz [26,63,0] ?_;refine zx (Qj J J (hc_Level) J) J ?_;refine Wz [47] ?_;refine zx (Qj J J (hc_Scripts) J) J ?_;refine Wz [47] ?_;refine zx (Qj J J (hc_Peers) J) J ?_;refine Wz [116,28] ?_
  exact Vz J (V0 [] J J (Xs (by rw[V3])))
 rw[V4] at hc_Peers
 have hb_Peers:decide (left-Enc.wt x.Level-Enc.wt x.Scripts-Enc.wt x.Peers<0)=false:=Gqa (by omega)
 have hc_Wires:=sz_WireSS x.Wires (left-Enc.wt x.Level-Enc.wt x.Scripts-Enc.wt x.Peers) g_Wires (by omega) (by omega)
 by_cases n_Wires:left-Enc.wt x.Level-Enc.wt x.Scripts-Enc.wt x.Peers<Enc.wt x.Wires
 ·rw[Z9 n_Wires] at hc_Wires
  refine Con.of Tryz.func41 J Tryz.ntmps41 J (fun E => ?_)
  refine Wz [26,63,0] ?_;refine zx (Qj J J (hc_Level) J) J ?_;refine Wz [47] ?_;refine zx (Qj J J (hc_Scripts) J) J ?_;refine Wz [47] ?_;refine zx (Qj J J (hc_Peers) J) J ?_;refine Wz [47] ?_;refine zx (Qj J J (hc_Wires) J) J ?_;refine Wz [116,28] ?_
  exact Vz J (V0 [] J J (Xs (by rw[V3])))
 rw[V4] at hc_Wires
 have hb_Wires:decide (left-Enc.wt x.Level-Enc.wt x.Scripts-Enc.wt x.Peers-Enc.wt x.Wires<0)=false:=Gqa (by omega)
 have hc_Paces:=sz_PaceSS x.Paces (left-Enc.wt x.Level-Enc.wt x.Scripts-Enc.wt x.Peers-Enc.wt x.Wires) g_Paces (by omega) (by omega)
 by_cases n_Paces:left-Enc.wt x.Level-Enc.wt x.Scripts-Enc.wt x.Peers-Enc.wt x.Wires<Enc.wt x.Paces
 ·rw[Z9 n_Paces] at hc_Paces
  refine Con.of Tryz.func41 J Tryz.ntmps41 J (fun E => ?_)
  refine Wz [26,63,0] ?_;refine zx (Qj J J (hc_Level) J) J ?_;refine Wz [47] ?_;refine zx (Qj J J (hc_Scripts) J) J ?_;refine Wz [47] ?_;refine zx (Qj J J (hc_Peers) J) J ?_;refine Wz [47] ?_;refine zx (Qj J J (hc_Wires) J) J ?_;refine Wz [47] ?_;refine zx (Qj J J (hc_Paces) J) J ?_;refine Wz [116,28] ?_
  exact Vz J (V0 [] J J (Xs (by rw[V3])))
 rw[V4] at hc_Paces
 have hb_Paces:decide (left-Enc.wt x.Level-Enc.wt x.Scripts-Enc.wt x.Peers-Enc.wt x.Wires-Enc.wt x.Paces<0)=false:=Gqa (by omega)
 have hc_Acks:=sz_IntSS x.Acks (left-Enc.wt x.Level-Enc.wt x.Scripts-Enc.wt x.Peers-Enc.wt x.Wires-Enc.wt x.Paces) g_Acks (by omega) (by omega)
 by_cases n_Acks:left-Enc.wt x.Level-Enc.wt x.Scripts-Enc.wt x.Peers-Enc.wt x.Wires-Enc.wt x.Paces<Enc.wt x.Acks
 ·rw[Z9 n_Acks] at hc_Acks
  refine Con.of Tryz.func41 J Tryz.ntmps41 J (fun E => ?_)
  refine Wz [26,63,0] ?_;refine zx (Qj J J (hc_Level) J) J ?_;refine Wz [47] ?_;refine zx (Qj J J (hc_Scripts) J) J ?_;refine Wz [47] ?_;refine zx (Qj J J (hc_Peers) J) J ?_;refine Wz [47] ?_;refine zx (Qj J J (hc_Wires) J) J ?_;refine Wz [47] ?_;refine zx (Qj J J (hc_Paces) J) J ?_;refine Wz [47] ?_;refine zx (Qj J J (hc_Acks) J) J ?_;refine Wz [116,28] ?_
  exact Vz J (V0 [] J J (Xs (by rw[V3])))
 rw[V4] at hc_Acks
 have hb_Acks:decide (left-Enc.wt x.Level-Enc.wt x.Scripts-Enc.wt x.Peers-Enc.wt x.Wires-Enc.wt x.Paces-Enc.wt x.Acks<0)=false:=Gqa (by omega)
 have hc_Watchers:=sz_SpectatorS x.Watchers (left-Enc.wt x.Level-Enc.wt x.Scripts-Enc.wt x.Peers-Enc.wt x.Wires-Enc.wt x.Paces-Enc.wt x.Acks) g_Watchers (by omega) (by omega)
 by_cases n_Watchers:left-Enc.wt x.Level-Enc.wt x.Scripts-Enc.wt x.Peers-Enc.wt x.Wires-Enc.wt x.Paces-Enc.wt x.Acks<Enc.wt x.Watchers
 ·rw[Z9 n_Watchers] at hc_Watchers
  refine Con.of Tryz.func41 J Tryz.ntmps41 J (fun E => ?_)
  refine Wz [26,63,0] ?_;refine zx (Qj J J (hc_Level) J) J ?_;refine Wz [47] ?_;refine zx (Qj J J (hc_Scripts) J) J ?_;refine Wz [47] ?_;refine zx (Qj J J (hc_Peers) J) J ?_;refine Wz [47] ?_;refine zx (Qj J J (hc_Wires) J) J ?_;refine Wz [47] ?_;refine zx (Qj J J (hc_Paces) J) J ?_;refine Wz [47] ?_;refine zx (Qj J J (hc_Acks) J) J ?_;refine Wz [47] ?_;refine zx (Qj J J (hc_Watchers) J) J ?_;refine Wz [116,28] ?_
  exact Vz J (V0 [] J J (Xs (by rw[V3])))
 rw[V4] at hc_Watchers
 have hb_Watchers:decide (left-Enc.wt x.Level-Enc.wt x.Scripts-Enc.wt x.Peers-Enc.wt x.Wires-Enc.wt x.Paces-Enc.wt x.Acks-Enc.wt x.Watchers<0)=false:=Gqa (by omega)
 have hc_Lines:=sz_WireS x.Lines (left-Enc.wt x.Level-Enc.wt x.Scripts-Enc.wt x.Peers-Enc.wt x.Wires-Enc.wt x.Paces-Enc.wt x.Acks-Enc.wt x.Watchers) g_Lines (by omega) (by omega)
 by_cases n_Lines:left-Enc.wt x.Level-Enc.wt x.Scripts-Enc.wt x.Peers-Enc.wt x.Wires-Enc.wt x.Paces-Enc.wt x.Acks-Enc.wt x.Watchers<Enc.wt x.Lines
 ·rw[Z9 n_Lines] at hc_Lines
  refine Con.of Tryz.func41 J Tryz.ntmps41 J (fun E => ?_)
  refine Wz [26,63,0] ?_;refine zx (Qj J J (hc_Level) J) J ?_;refine Wz [47] ?_;refine zx (Qj J J (hc_Scripts) J) J ?_;refine Wz [47] ?_;refine zx (Qj J J (hc_Peers) J) J ?_;refine Wz [47] ?_;refine zx (Qj J J (hc_Wires) J) J ?_;refine Wz [47] ?_;refine zx (Qj J J (hc_Paces) J) J ?_;refine Wz [47] ?_;refine zx (Qj J J (hc_Acks) J) J ?_;refine Wz [47] ?_;refine zx (Qj J J (hc_Watchers) J) J ?_;refine Wz [47] ?_;refine zx (Qj J J (hc_Lines) J) J ?_;refine Wz [116,28] ?_
  exact Vz J (V0 [] J J (Xs (by rw[V3])))
 rw[V4] at hc_Lines
 have hb_Lines:decide (left-Enc.wt x.Level-Enc.wt x.Scripts-Enc.wt x.Peers-Enc.wt x.Wires-Enc.wt x.Paces-Enc.wt x.Acks-Enc.wt x.Watchers-Enc.wt x.Lines<0)=false:=Gqa (by omega)
 have hc_Alarms:=sz_AlarmS x.Alarms (left-Enc.wt x.Level-Enc.wt x.Scripts-Enc.wt x.Peers-Enc.wt x.Wires-Enc.wt x.Paces-Enc.wt x.Acks-Enc.wt x.Watchers-Enc.wt x.Lines) g_Alarms (by omega) (by omega)
 by_cases n_Alarms:left-Enc.wt x.Level-Enc.wt x.Scripts-Enc.wt x.Peers-Enc.wt x.Wires-Enc.wt x.Paces-Enc.wt x.Acks-Enc.wt x.Watchers-Enc.wt x.Lines<Enc.wt x.Alarms
 ·rw[Z9 n_Alarms] at hc_Alarms
  refine Con.of Tryz.func41 J Tryz.ntmps41 J (fun E => ?_)
  refine Wz [26,63,0] ?_;refine zx (Qj J J (hc_Level) J) J ?_;refine Wz [47] ?_;refine zx (Qj J J (hc_Scripts) J) J ?_;refine Wz [47] ?_;refine zx (Qj J J (hc_Peers) J) J ?_;refine Wz [47] ?_;refine zx (Qj J J (hc_Wires) J) J ?_;refine Wz [47] ?_;refine zx (Qj J J (hc_Paces) J) J ?_;refine Wz [47] ?_;refine zx (Qj J J (hc_Acks) J) J ?_;refine Wz [47] ?_;refine zx (Qj J J (hc_Watchers) J) J ?_;refine Wz [47] ?_;refine zx (Qj J J (hc_Lines) J) J ?_;refine Wz [47] ?_;refine zx (Qj J J (hc_Alarms) J) J ?_;refine Wz [116,28] ?_
  exact Vz J (V0 [] J J (Xs (by rw[V3])))
 rw[V4] at hc_Alarms
 have hb_Alarms:decide (left-Enc.wt x.Level-Enc.wt x.Scripts-Enc.wt x.Peers-Enc.wt x.Wires-Enc.wt x.Paces-Enc.wt x.Acks-Enc.wt x.Watchers-Enc.wt x.Lines-Enc.wt x.Alarms<0)=false:=Gqa (by omega)
 refine Con.of Tryz.func41 J Tryz.ntmps41 J (fun E => ?_)
 refine Wz [26,63,0] ?_;refine zx (Qj J J (hc_Level) J) J ?_;refine Wz [47] ?_;refine zx (Qj J J (hc_Scripts) J) J ?_;refine Wz [47] ?_;refine zx (Qj J J (hc_Peers) J) J ?_;refine Wz [47] ?_;refine zx (Qj J J (hc_Wires) J) J ?_;refine Wz [47] ?_;refine zx (Qj J J (hc_Paces) J) J ?_;refine Wz [47] ?_;refine zx (Qj J J (hc_Acks) J) J ?_;refine Wz [47] ?_;refine zx (Qj J J (hc_Watchers) J) J ?_;refine Wz [47] ?_;refine zx (Qj J J (hc_Lines) J) J ?_;refine Wz [47] ?_;refine zx (Qj J J (hc_Alarms) J) J ?_;refine Wz [125,81] ?_
 exact Vz J (V0 [] J J (Xs (by rw[V4]; omega)))
theorem eq_Match (x y:TMatch) (hg:Enc.gd x):Con Tryz.prog 30 [] [ag x,ag y] [] (B (decide (x=y))):=by
 obtain⟨g_Level,g_Seed,g_Delay,g_Scripts,g_Peers,g_Wires,g_Paces,g_Acks,g_Clock,g_Watchers,g_Lines,g_Alarms,g_Bad⟩:=hg
 by_cases e_Level:¬x.Level=y.Level
 ·have hc:=eq_Level x.Level y.Level g_Level
  rw[Gqa e_Level] at hc
  refine Con.of Tryz.func30 J Tryz.ntmps30 J (fun E => ?_)
  refine Wz [77,78] ?_;refine zx (Qj J J (hc) J) J ?_;refine Wz [8,28] ?_
  exact Vz J (V0 [] J J (Xk (Gqa fun e=>e_Level (by rw[e])).symm))
 have e_Level:=Classical.not_not.1 e_Level
 have hc_Level:=eq_Level x.Level y.Level g_Level
 rw[Gqb e_Level] at hc_Level
 by_cases e_Seed:¬x.Seed=y.Seed
 ·have hk:decide (x.Seed≠y.Seed)=true:=by simp[e_Seed]
  refine Con.of Tryz.func30 J Tryz.ntmps30 J (fun E => ?_)
  refine Wz [77,78] ?_;refine zx (Qj J J (hc_Level) J) J ?_;refine Wz [19,41] ?_
  exact Vz J (V0 [] J J (Xk (Gqa fun e=>e_Seed (by rw[e])).symm))
 have e_Seed:=Classical.not_not.1 e_Seed
 have k_Seed:decide (x.Seed≠y.Seed)=false:=by simp[e_Seed]
 by_cases e_Delay:¬x.Delay=y.Delay
 ·have hk:decide (x.Delay≠y.Delay)=true:=by simp[e_Delay]
  refine Con.of Tryz.func30 J Tryz.ntmps30 J (fun E => ?_)
  refine Wz [77,78] ?_;refine zx (Qj J J (hc_Level) J) J ?_;refine Wz [19,110,41] ?_
  exact Vz J (V0 [] J J (Xk (Gqa fun e=>e_Delay (by rw[e])).symm))
 have e_Delay:=Classical.not_not.1 e_Delay
 have k_Delay:decide (x.Delay≠y.Delay)=false:=by simp[e_Delay]
 by_cases e_Scripts:¬x.Scripts=y.Scripts
 ·have hc:=eq_IntSS x.Scripts y.Scripts g_Scripts
  rw[Gqa e_Scripts] at hc
  refine Con.of Tryz.func30 J Tryz.ntmps30 J (fun E => ?_)
  refine Wz [77,78] ?_;refine zx (Qj J J (hc_Level) J) J ?_;refine Wz [19,114] ?_;refine zx (Qj J J (hc) J) J ?_;refine Wz [8,28] ?_
  exact Vz J (V0 [] J J (Xk (Gqa fun e=>e_Scripts (by rw[e])).symm))
 have e_Scripts:=Classical.not_not.1 e_Scripts
 have hc_Scripts:=eq_IntSS x.Scripts y.Scripts g_Scripts
 rw[Gqb e_Scripts] at hc_Scripts
 by_cases e_Peers:¬x.Peers=y.Peers
 ·have hc:=eq_PeerS x.Peers y.Peers g_Peers
  rw[Gqa e_Peers] at hc
  refine Con.of Tryz.func30 J Tryz.ntmps30 J (fun E => ?_)
  refine Wz [77,78] ?_;refine zx (Qj J J (hc_Level) J) J ?_;refine Wz [19,114] ?_;refine zx (Qj J J (hc_Scripts) J) J ?_;refine Wz [19] ?_;refine zx (Qj J J (hc) J) J ?_;refine Wz [8,28] ?_
  exact Vz J (V0 [] J J (Xk (Gqa fun e=>e_Peers (by rw[e])).symm))
 have e_Peers:=Classical.not_not.1 e_Peers
 have hc_Peers:=eq_PeerS x.Peers y.Peers g_Peers
 rw[Gqb e_Peers] at hc_Peers
 by_cases e_Wires:¬x.Wires=y.Wires
 ·have hc:=eq_WireSS x.Wires y.Wires g_Wires
  rw[Gqa e_Wires] at hc
  refine Con.of Tryz.func30 J Tryz.ntmps30 J (fun E => ?_)
  refine Wz [77,78] ?_;refine zx (Qj J J (hc_Level) J) J ?_;refine Wz [19,114] ?_;refine zx (Qj J J (hc_Scripts) J) J ?_;refine Wz [19] ?_;refine zx (Qj J J (hc_Peers) J) J ?_;refine Wz [19] ?_;refine zx (Qj J J (hc) J) J ?_;refine Wz [8,28] ?_
  exact Vz J (V0 [] J J (Xk (Gqa fun e=>e_Wires (by rw[e])).symm))
 have e_Wires:=Classical.not_not.1 e_Wires
 have hc_Wires:=eq_WireSS x.Wires y.Wires g_Wires
 rw[Gqb e_Wires] at hc_Wires
 by_cases e_Paces:¬x.Paces=y.Paces
 ·have hc:=eq_PaceSS x.Paces y.Paces g_Paces
  rw[Gqa e_Paces] at hc
  refine Con.of Tryz.func30 J Tryz.ntmps30 J (fun E => ?_)
  refine Wz [77,78] ?_;refine zx (Qj J J (hc_Level) J) J ?_;refine Wz [19,114] ?_;refine zx (Qj J J (hc_Scripts) J) J ?_;refine Wz [19] ?_;refine zx (Qj J J (hc_Peers) J) J ?_;refine Wz [19] ?_;refine zx (Qj J J (hc_Wires) J) J ?_;refine Wz [19] ?_;refine zx (Qj J J (hc) J) J ?_;refine Wz [8,28] ?_
  exact Vz J (V0 [] J J (Xk (Gqa fun e=>e_Paces (by rw[e])).symm))
 have e_Paces:=Classical.not_not.1 e_Paces
 have hc_Paces:=eq_PaceSS x.Paces y.Paces g_Paces
 rw[Gqb e_Paces] at hc_Paces
 by_cases e_Acks:¬x.Acks=y.Acks
 ·have hc:=eq_IntSS x.Acks y.Acks g_Acks
  rw[Gqa e_Acks] at hc
  refine Con.of Tryz.func30 J Tryz.ntmps30 J (fun E => ?_)
  refine Wz [77,78] ?_;refine zx (Qj J J (hc_Level) J) J ?_;refine Wz [19,114] ?_;refine zx (Qj J J (hc_Scripts) J) J ?_;refine Wz [19] ?_;refine zx (Qj J J (hc_Peers) J) J ?_;refine Wz [19] ?_;refine zx (Qj J J (hc_Wires) J) J ?_;refine Wz [19] ?_;refine zx (Qj J J (hc_Paces) J) J ?_;refine Wz [19] ?_;refine zx (Qj J J (hc) J) J ?_;refine Wz [8,28] ?_
  exact Vz J (V0 [] J J (Xk (Gqa fun e=>e_Acks (by rw[e])).symm))
 have e_Acks:=Classical.not_not.1 e_Acks
 have hc_Acks:=eq_IntSS x.Acks y.Acks g_Acks
 rw[Gqb e_Acks] at hc_Acks
 by_cases e_Clock:¬x.Clock=y.Clock
 ·have hk:decide (x.Clock≠y.Clock)=true:=by simp[e_Clock]
  refine Con.of Tryz.func30 J Tryz.ntmps30 J (fun E => ?_)
  refine Wz [77,78] ?_;refine zx (Qj J J (hc_Level) J) J ?_;refine Wz [19,114] ?_;refine zx (Qj J J (hc_Scripts) J) J ?_;refine Wz [19] ?_;refine zx (Qj J J (hc_Peers) J) J ?_;refine Wz [19] ?_;refine zx (Qj J J (hc_Wires) J) J ?_;refine Wz [19] ?_;refine zx (Qj J J (hc_Paces) J) J ?_;refine Wz [19] ?_;refine zx (Qj J J (hc_Acks) J) J ?_;refine Wz [19,41] ?_
  exact Vz J (V0 [] J J (Xk (Gqa fun e=>e_Clock (by rw[e])).symm))
 have e_Clock:=Classical.not_not.1 e_Clock
 have k_Clock:decide (x.Clock≠y.Clock)=false:=by simp[e_Clock]
 by_cases e_Watchers:¬x.Watchers=y.Watchers
 ·have hc:=eq_SpectatorS x.Watchers y.Watchers g_Watchers
  rw[Gqa e_Watchers] at hc
  refine Con.of Tryz.func30 J Tryz.ntmps30 J (fun E => ?_)
  refine Wz [77,78] ?_;refine zx (Qj J J (hc_Level) J) J ?_;refine Wz [19,114] ?_;refine zx (Qj J J (hc_Scripts) J) J ?_;refine Wz [19] ?_;refine zx (Qj J J (hc_Peers) J) J ?_;refine Wz [19] ?_;refine zx (Qj J J (hc_Wires) J) J ?_;refine Wz [19] ?_;refine zx (Qj J J (hc_Paces) J) J ?_;refine Wz [19] ?_;refine zx (Qj J J (hc_Acks) J) J ?_;refine Wz [19,110] ?_;refine zx (Qj J J (hc) J) J ?_;refine Wz [8,28] ?_
  exact Vz J (V0 [] J J (Xk (Gqa fun e=>e_Watchers (by rw[e])).symm))
 have e_Watchers:=Classical.not_not.1 e_Watchers
 have hc_Watchers:=eq_SpectatorS x.Watchers y.Watchers g_Watchers
 rw[Gqb e_Watchers] at hc_Watchers
 by_cases e_Lines:¬x.Lines=y.Lines
 ·have hc:=eq_WireS x.Lines y.Lines g_Lines
  rw[Gqa e_Lines] at hc
  refine Con.of Tryz.func30 J Tryz.ntmps30 J (fun E => ?_)
  refine Wz [77,78] ?_;refine zx (Qj J J (hc_Level) J) J ?_;refine Wz [19,114] ?_;refine zx (Qj J J (hc_Scripts) J) J ?_;refine Wz [19] ?_;refine zx (Qj J J (hc_Peers) J) J ?_;refine Wz [19] ?_;refine zx (Qj J J (hc_Wires) J) J ?_;refine Wz [19] ?_;refine zx (Qj J J (hc_Paces) J) J ?_;refine Wz [19] ?_;refine zx (Qj J J (hc_Acks) J) J ?_;refine Wz [19,110] ?_;refine zx (Qj J J (hc_Watchers) J) J ?_;refine Wz [19] ?_;refine zx (Qj J J (hc) J) J ?_;refine Wz [8,28] ?_
  exact Vz J (V0 [] J J (Xk (Gqa fun e=>e_Lines (by rw[e])).symm))
 have e_Lines:=Classical.not_not.1 e_Lines
 have hc_Lines:=eq_WireS x.Lines y.Lines g_Lines
 rw[Gqb e_Lines] at hc_Lines
 by_cases e_Alarms:¬x.Alarms=y.Alarms
 ·have hc:=eq_AlarmS x.Alarms y.Alarms g_Alarms
  rw[Gqa e_Alarms] at hc
  refine Con.of Tryz.func30 J Tryz.ntmps30 J (fun E => ?_)
  refine Wz [77,78] ?_;refine zx (Qj J J (hc_Level) J) J ?_;refine Wz [19,114] ?_;refine zx (Qj J J (hc_Scripts) J) J ?_;refine Wz [19] ?_;refine zx (Qj J J (hc_Peers) J) J ?_;refine Wz [19] ?_;refine zx (Qj J J (hc_Wires) J) J ?_;refine Wz [19] ?_;refine zx (Qj J J (hc_Paces) J) J ?_;refine Wz [19] ?_;refine zx (Qj J J (hc_Acks) J) J ?_;refine Wz [19,110] ?_;refine zx (Qj J J (hc_Watchers) J) J ?_;refine Wz [19] ?_;refine zx (Qj J J (hc_Lines) J) J ?_;refine Wz [19] ?_;refine zx (Qj J J (hc) J) J ?_;refine Wz [8,28] ?_
  exact Vz J (V0 [] J J (Xk (Gqa fun e=>e_Alarms (by rw[e])).symm))
 have e_Alarms:=Classical.not_not.1 e_Alarms
 have hc_Alarms:=eq_AlarmS x.Alarms y.Alarms g_Alarms
 rw[Gqb e_Alarms] at hc_Alarms
 by_cases e_Bad:¬x.Bad=y.Bad
 ·have hk:decide (x.Bad≠y.Bad)=true:=by simp[e_Bad]
  refine Con.of Tryz.func30 J Tryz.ntmps30 J (fun E => ?_)
  refine Wz [77,78] ?_;refine zx (Qj J J (hc_Level) J) J ?_;refine Wz [19,114] ?_;refine zx (Qj J J (hc_Scripts) J) J ?_;refine Wz [19] ?_;refine zx (Qj J J (hc_Peers) J) J ?_;refine Wz [19] ?_;refine zx (Qj J J (hc_Wires) J) J ?_;refine Wz [19] ?_;refine zx (Qj J J (hc_Paces) J) J ?_;refine Wz [19] ?_;refine zx (Qj J J (hc_Acks) J) J ?_;refine Wz [19,110] ?_;refine zx (Qj J J (hc_Watchers) J) J ?_;refine Wz [19] ?_;refine zx (Qj J J (hc_Lines) J) J ?_;refine Wz [19] ?_;refine zx (Qj J J (hc_Alarms) J) J ?_;refine Wz [19,41] ?_
  exact Vz J (V0 [] J J (Xk (Gqa fun e=>e_Bad (by rw[e])).symm))
 have e_Bad:=Classical.not_not.1 e_Bad
 have k_Bad:decide (x.Bad≠y.Bad)=false:=by simp[e_Bad]
 refine Con.of Tryz.func30 J Tryz.ntmps30 J (fun E => ?_)
 refine Wz [77,78] ?_;refine zx (Qj J J (hc_Level) J) J ?_;refine Wz [19,114] ?_;refine zx (Qj J J (hc_Scripts) J) J ?_;refine Wz [19] ?_;refine zx (Qj J J (hc_Peers) J) J ?_;refine Wz [19] ?_;refine zx (Qj J J (hc_Wires) J) J ?_;refine Wz [19] ?_;refine zx (Qj J J (hc_Paces) J) J ?_;refine Wz [19] ?_;refine zx (Qj J J (hc_Acks) J) J ?_;refine Wz [19,110] ?_;refine zx (Qj J J (hc_Watchers) J) J ?_;refine Wz [19] ?_;refine zx (Qj J J (hc_Lines) J) J ?_;refine Wz [19] ?_;refine zx (Qj J J (hc_Alarms) J) J ?_;refine Wz [19,29,56,156] ?_
 exact Vz J (V0 [] J J (Xk (Gqb (TMatch.same e_Level e_Seed e_Delay e_Scripts e_Peers e_Wires e_Paces e_Acks e_Clock e_Watchers e_Lines e_Alarms e_Bad)).symm))
end
section
open Go.RowKit

theorem law_JudgePeer (x:TMatch) (i:Int) (g_x:Enc.gd x) (g_i:Enc.gd i):Con Tryz.prog 5 [] [ag x,ai i] [] (B true):=by
 have hz:=sz_Match x (1048576) g_x (by omega) (by omega)
 by_cases n_x:(1048576:Int)<Enc.wt x
 ·rw[Z9 n_x] at hz
  refine Con.of Tryz.func5 J Tryz.ntmps5 J (fun E => ?_)
  refine Wz [26,31,15,0] ?_;refine zx (Qj J J (hz) J) J ?_;refine Wz [42,230,28] ?_
  exact Vz J (V0 [] J J J)
 rw[V4] at hz
 have hb:decide ((1048576:Int)-Enc.wt x<0)=false:=Gqa (by omega)
 have ht:=to_Match x (by omega)
 have hq:=eq_Match x x g_x
 rw[Gqb rfl] at hq
 have hsp:=S_JudgePeer x i g_x g_i (lev_in (by omega))
 have hip:=I_JudgePeer x i g_x g_i (lev_in (by omega))
 generalize judgeP x i=y at hsp hip
 have hne:decide (y≠y)=false:=Gqa (fun h=>h rfl)
 refine Con.of Tryz.func5 J Tryz.ntmps5 J (fun E => ?_)
 refine Wz [26,31,15,0] ?_;refine zx (Qj J J (hz) J) J ?_;refine Wz [125,15] ?_;refine M1 (Za J J (ht) J J J) J J ?_;refine AL.weak (st':=(⟨_,[(1,I i),(2,.o (.c (.ptr 0 0))),(15,.o (.ag [.ref 1,.rd [] (.v (.int .i64 x.Seed)),.rd [] (.v (.int .i64 x.Delay)),.ref 2,.ref 3,.ref 4,.ref 5,.ref 6,.rd [] (.v (.int .i64 x.Clock)),.ref 7,.ref 8,.ref 9,.rd [] (.v (.int .i64 x.Bad))]))],[.box ((Enc.e x).map (V1.rd [])),.row 1 (els x.Level.Rows),.row 1 (els x.Scripts),.row 23 (els x.Peers),.row 1 (els x.Wires),.row 1 (els x.Paces),.row 1 (els x.Acks),.row 6 (els x.Watchers),.row 10 (els x.Lines),.row 2 (els x.Alarms)]⟩:St)) (Vy [0,1,2,3,4,5,6,7,8,9] J ((by kernel_rfl)) (.c J (.c J (.c J (.nil))))) ?_;refine z0 J ?_;refine zx (Qj J J (hsp) J) J ?_;refine AL.weak (st':=(⟨_,[(1,I i),(2,.o (.c (.ptr 0 0))),(17,B y)],[.box ((Enc.e x).map (V1.rd []))]⟩:St)) (V8 [0]) ?_;refine Wz [4,15] ?_;refine M1 (Za J J (ht) J J J) J J ?_;refine AL.weak (st':=(⟨_,[(1,I i),(2,.o (.c (.ptr 0 0))),(6,B y),(19,.o (.ag [.ref 1,.rd [] (.v (.int .i64 x.Seed)),.rd [] (.v (.int .i64 x.Delay)),.ref 2,.ref 3,.ref 4,.ref 5,.ref 6,.rd [] (.v (.int .i64 x.Clock)),.ref 7,.ref 8,.ref 9,.rd [] (.v (.int .i64 x.Bad))]))],[.box ((Enc.e x).map (V1.rd [])),.row 1 (els x.Level.Rows),.row 1 (els x.Scripts),.row 23 (els x.Peers),.row 1 (els x.Wires),.row 1 (els x.Paces),.row 1 (els x.Acks),.row 6 (els x.Watchers),.row 10 (els x.Lines),.row 2 (els x.Alarms)]⟩:St)) (Vy [0,1,2,3,4,5,6,7,8,9] J ((by kernel_rfl)) (.c J (.c J (.c J (.c J (.nil)))))) ?_;refine Wz [115,88] ?_;refine AL.weak (st':=(⟨_,[(1,I i),(2,.o (.c (.ptr 0 0))),(6,B y),(7,.o (.c (.ptr 10 0)))],[.box ((Enc.e x).map (V1.rd [])),.row 1 (els x.Level.Rows),.row 1 (els x.Scripts),.row 23 (els x.Peers),.row 1 (els x.Wires),.row 1 (els x.Paces),.row 1 (els x.Acks),.row 6 (els x.Watchers),.row 10 (els x.Lines),.row 2 (els x.Alarms),.box [.ref 1,.rd [] (.v (.int .i64 x.Seed)),.rd [] (.v (.int .i64 x.Delay)),.ref 2,.ref 3,.ref 4,.ref 5,.ref 6,.rd [] (.v (.int .i64 x.Clock)),.ref 7,.ref 8,.ref 9,.rd [] (.v (.int .i64 x.Bad))]]⟩:St)) (Vy [0,1,2,3,4,5,6,7,8,9,10] J ((by kernel_rfl)) (.c J (.c J (.c J (.c J (.nil)))))) ?_;refine Wz [16,15] ?_;refine AL.weak (st':=(⟨_,[(1,I i),(2,.o (.c (.ptr 0 0))),(6,B y),(7,.o (.c (.ptr 10 0))),(20,.o (.ag [.ref 1,.rd [] (.v (.int .i64 x.Seed)),.rd [] (.v (.int .i64 x.Delay)),.ref 2,.ref 3,.ref 4,.ref 5,.ref 6,.rd [] (.v (.int .i64 x.Clock)),.ref 7,.ref 8,.ref 9,.rd [] (.v (.int .i64 x.Bad))]))],[.box ((Enc.e x).map (V1.rd [])),.row 1 (els x.Level.Rows),.row 1 (els x.Scripts),.row 23 (els x.Peers),.row 1 (els x.Wires),.row 1 (els x.Paces),.row 1 (els x.Acks),.row 6 (els x.Watchers),.row 10 (els x.Lines),.row 2 (els x.Alarms),.box [.ref 1,.rd [] (.v (.int .i64 x.Seed)),.rd [] (.v (.int .i64 x.Delay)),.ref 2,.ref 3,.ref 4,.ref 5,.ref 6,.rd [] (.v (.int .i64 x.Clock)),.ref 7,.ref 8,.ref 9,.rd [] (.v (.int .i64 x.Bad))]]⟩:St)) (Vy [0,1,2,3,4,5,6,7,8,9,10] J ((by kernel_rfl)) (.c J (.c J (.c J (.c J (.c J (.nil))))))) ?_;refine z0 J ?_;refine zx (Qj J J (hip) J) J ?_;refine AL.weak (st':=(⟨_,[(1,I i),(2,.o (.c (.ptr 0 0))),(6,B y),(7,.o (.c (.ptr 10 0))),(22,B y)],[.box ((Enc.e x).map (V1.rd [])),.row 1 (els x.Level.Rows),.row 1 (els x.Scripts),.row 23 (els x.Peers),.row 1 (els x.Wires),.row 1 (els x.Paces),.row 1 (els x.Acks),.row 6 (els x.Watchers),.row 10 (els x.Lines),.row 2 (els x.Alarms),.box [.ref 1,.rd [] (.v (.int .i64 x.Seed)),.rd [] (.v (.int .i64 x.Delay)),.ref 2,.ref 3,.ref 4,.ref 5,.ref 6,.rd [] (.v (.int .i64 x.Clock)),.ref 7,.ref 8,.ref 9,.rd [] (.v (.int .i64 x.Bad))]]⟩:St)) (Vy [0,1,2,3,4,5,6,7,8,9,10] J ((by kernel_rfl)) (.c J (.c J (.c J (.c J (.c J (.nil))))))) ?_;refine Wz [42,0,219,16] ?_
 refine Xb J (fun h=>absurd h (by simp)) (fun h => ?_)
 refine Wz [229,18] ?_
 refine AWP.pre (st':=(⟨_,[(1,I i),(2,.o (.c (.ptr 0 0))),(7,.o (.c (.ptr 10 0)))],[.box ((Enc.e x).map (V1.rd [])),.row 1 (els x.Level.Rows),.row 1 (els x.Scripts),.row 23 (els x.Peers),.row 1 (els x.Wires),.row 1 (els x.Paces),.row 1 (els x.Acks),.row 6 (els x.Watchers),.row 10 (els x.Lines),.row 2 (els x.Alarms),.box [.ref 1,.rd [] (.v (.int .i64 x.Seed)),.rd [] (.v (.int .i64 x.Delay)),.ref 2,.ref 3,.ref 4,.ref 5,.ref 6,.rd [] (.v (.int .i64 x.Clock)),.ref 7,.ref 8,.ref 9,.rd [] (.v (.int .i64 x.Bad))]]⟩:St)) ?_ (Vy [0,1,2,3,4,5,6,7,8,9,10] J ((by kernel_rfl)) (.c J (.c J (.c J (.nil)))))
 refine Xi u8_63 u8_64 u8_65 J ?_;refine Wz [105,105] ?_;refine Kk (Za J J (ht) J J J) J ?_;refine Kk (Qj J J (hq) J) J ?_;refine Wz [76,10,16] ?_
 refine AWP.pre (st':=(⟨_,[(30,B false)],[]⟩:St)) ?_ (V8 [])
 refine Wz [147,22,156] ?_
 exact Vz J (V0 [] J J J)
end
section
open Go.ChangeShapes Go.WideShapes Go.ChangeAt Go.RowKit

def RL (w:World) (ts:List T) (cs:List Value):Prop:=∀ (j:Nat) (t:T) (u:Value),ts[j]? = some t→cs[j]? = some u→RO w (fun _=>True) t u
theorem RL.nil {w:World} {cs:List Value}:RL w [] cs:=fun _ _ _ h=>by simp at h
theorem RL.app {w:World} {ts us:List T} {cs:List Value} {o n:Nat} (h1:RL w ts ((cs.drop o).take n)) (hn:ts.length=n) (h2:RL w us (cs.drop (o+n))):RL w (ts++us) (cs.drop o):=fun j t u h3 h4=>by
 rcases Gqn j ts.length with hj | hj
 ·rw[Gqt hj] at h3
  exact h1 j t u h3 (by rw[Gq9,if_pos (by omega)]; exact h4)
 ·rw[Gqx hj] at h3
  refine h2 (j-ts.length) t u h3 ?_
  rw[Gxd] at h4 ⊢
  rw[←h4]
  congr 1
  omega
theorem Zw {P:Program} {t tt:TypeId} {fs:Array Field} {f:Field} {α:Type} [Enc α] {H:Type} {enc:TypeId×Value→H} {w:World} {spare:Nat→Bool} {held:Bool} {fuel:Nat} {cs:List Value} {x:DataW H×List MemPlace}
  (ht:P.underlying t=some (.struct fs)) (h:DataW.trod enc P w 0 spare held fuel t cs=some x) (i:Nat) (hf:fs[i]? = some f) (hty:f.type=tt) [hα:RdOf P tt α] {o:Nat} (ho:f.offset=o) :
  ∃ y:α,Enc.gd y∧RL w (Enc.e y) ((cs.drop o).take (Enc.k α)):=by
 obtain⟨xs,n,_,_,hl,hlen,hfs⟩:=DataW.trod_struct ht h
 have h1:=hfs i f hf
 have hi:i<fs.size:=by
  rcases Gqn i fs.size with h2 | h2
  ·exact h2
  ·rw[Array.getElem?_eq_none h2] at hf; cases hf
 rw[Gqf (by omega),hty,ho,hα.size] at h1
 obtain⟨y,hg,hr⟩:=hα.of h1
 exact⟨y,hg,hr.2⟩
theorem Zx {P:Program} {t:TypeId} {fs:Array Field} {H:Type} {enc:TypeId×Value→H} {w:World} {spare:Nat→Bool} {held:Bool} {fuel:Nat} {cs:List Value} {x:DataW H×List MemPlace}
  (ht:P.underlying t=some (.struct fs)) (h:DataW.trod enc P w 0 spare held fuel t cs=some x):cs.length=P.cellsOf t:=by
 obtain⟨xs,n,_,_,hl,_⟩:=DataW.trod_struct ht h
 exact hl

instance:RdOf Tryz.prog 3 Int:=rdOf_int Tryz.underlying3 (by kernel_rfl)
instance:RdOf Tryz.prog 9 ByteArray:=rdOf_string Tryz.underlying9 (by kernel_rfl)
instance:RdOf Tryz.prog 28 (List Int):=Zv Tryz.underlying28 (by kernel_rfl)
instance:RdOf Tryz.prog 25 (List ByteArray):=Zv Tryz.underlying25 (by kernel_rfl)
instance:RdOf Tryz.prog 32 (List (List Int)):=Zv Tryz.underlying32 (by kernel_rfl)
instance:RdOf Tryz.prog 52 TLevel where
 size:=by kernel_rfl
 of {H enc w spare held fuel cs x} h:=by
  obtain⟨y0,g0,r0⟩:=Zw (α:=(List ByteArray)) (tt:=25) Tryz.underlying52 h 0 rfl rfl rfl
  refine⟨⟨y0⟩,g0,?_,?_⟩
  ·rw[Zx Tryz.underlying52 h]; kernel_rfl
  ·exact (RL.app (o:=0) (n:=1) r0 rfl (RL.nil):RL w _ (cs.drop 0))
end
section
open Go.ChangeShapes Go.WideShapes Go.ChangeAt Go.RowKit

instance:RdOf Tryz.prog 300 TBody where
 size:=by kernel_rfl
 of {H enc w spare held fuel cs x} h:=by
  obtain⟨y0,g0,r0⟩:=Zw (α:=Int) (tt:=3) Tryz.underlying300 h 0 rfl rfl rfl
  obtain⟨y1,g1,r1⟩:=Zw (α:=Int) (tt:=3) Tryz.underlying300 h 1 rfl rfl rfl
  obtain⟨y2,g2,r2⟩:=Zw (α:=Int) (tt:=3) Tryz.underlying300 h 2 rfl rfl rfl
  obtain⟨y3,g3,r3⟩:=Zw (α:=Int) (tt:=3) Tryz.underlying300 h 3 rfl rfl rfl
  obtain⟨y4,g4,r4⟩:=Zw (α:=Int) (tt:=3) Tryz.underlying300 h 4 rfl rfl rfl
  obtain⟨y5,g5,r5⟩:=Zw (α:=Int) (tt:=3) Tryz.underlying300 h 5 rfl rfl rfl
  obtain⟨y6,g6,r6⟩:=Zw (α:=Int) (tt:=3) Tryz.underlying300 h 6 rfl rfl rfl
  obtain⟨y7,g7,r7⟩:=Zw (α:=Int) (tt:=3) Tryz.underlying300 h 7 rfl rfl rfl
  obtain⟨y8,g8,r8⟩:=Zw (α:=Int) (tt:=3) Tryz.underlying300 h 8 rfl rfl rfl
  refine⟨⟨y0,y1,y2,y3,y4,y5,y6,y7,y8⟩,⟨g0,g1,g2,g3,g4,g5,g6,g7,g8⟩,?_,?_⟩
  ·rw[Zx Tryz.underlying300 h]; kernel_rfl
  ·exact (RL.app (o:=0) (n:=1) r0 rfl (RL.app (o:=1) (n:=1) r1 rfl (RL.app (o:=2) (n:=1) r2 rfl (RL.app (o:=3) (n:=1) r3 rfl (RL.app (o:=4) (n:=1) r4 rfl (RL.app (o:=5) (n:=1) r5 rfl (RL.app (o:=6) (n:=1) r6 rfl (RL.app (o:=7) (n:=1) r7 rfl (RL.app (o:=8) (n:=1) r8 rfl (RL.nil))))))))):RL w _ (cs.drop 0))
instance:RdOf Tryz.prog 104 (List TBody):=Zv Tryz.underlying104 (by kernel_rfl)
instance:RdOf Tryz.prog 106 TWorld where
 size:=by kernel_rfl
 of {H enc w spare held fuel cs x} h:=by
  obtain⟨y0,g0,r0⟩:=Zw (α:=TLevel) (tt:=52) Tryz.underlying106 h 0 rfl rfl rfl
  obtain⟨y1,g1,r1⟩:=Zw (α:=Int) (tt:=3) Tryz.underlying106 h 1 rfl rfl rfl
  obtain⟨y2,g2,r2⟩:=Zw (α:=Int) (tt:=3) Tryz.underlying106 h 2 rfl rfl rfl
  obtain⟨y3,g3,r3⟩:=Zw (α:=(List Int)) (tt:=28) Tryz.underlying106 h 3 rfl rfl rfl
  obtain⟨y4,g4,r4⟩:=Zw (α:=(List TBody)) (tt:=104) Tryz.underlying106 h 4 rfl rfl rfl
  refine⟨⟨y0,y1,y2,y3,y4⟩,⟨g0,g1,g2,g3,g4⟩,?_,?_⟩
  ·rw[Zx Tryz.underlying106 h]; kernel_rfl
  ·exact (RL.app (o:=0) (n:=1) r0 rfl (RL.app (o:=1) (n:=1) r1 rfl (RL.app (o:=2) (n:=1) r2 rfl (RL.app (o:=3) (n:=1) r3 rfl (RL.app (o:=4) (n:=1) r4 rfl (RL.nil))))):RL w _ (cs.drop 0))
end
section
open Go.ChangeShapes Go.WideShapes Go.ChangeAt Go.RowKit

instance:RdOf Tryz.prog 253 TTrack where
 size:=by kernel_rfl
 of {H enc w spare held fuel cs x} h:=by
  obtain⟨y0,g0,r0⟩:=Zw (α:=(List Int)) (tt:=28) Tryz.underlying253 h 0 rfl rfl rfl
  refine⟨⟨y0⟩,g0,?_,?_⟩
  ·rw[Zx Tryz.underlying253 h]; kernel_rfl
  ·exact (RL.app (o:=0) (n:=1) r0 rfl (RL.nil):RL w _ (cs.drop 0))
instance:RdOf Tryz.prog 103 (List TTrack):=Zv Tryz.underlying103 (by kernel_rfl)
instance:RdOf Tryz.prog 256 TSave where
 size:=by kernel_rfl
 of {H enc w spare held fuel cs x} h:=by
  obtain⟨y0,g0,r0⟩:=Zw (α:=Int) (tt:=3) Tryz.underlying256 h 0 rfl rfl rfl
  obtain⟨y1,g1,r1⟩:=Zw (α:=ByteArray) (tt:=9) Tryz.underlying256 h 1 rfl rfl rfl
  refine⟨⟨y0,y1⟩,⟨g0,g1⟩,?_,?_⟩
  ·rw[Zx Tryz.underlying256 h]; kernel_rfl
  ·exact (RL.app (o:=0) (n:=1) r0 rfl (RL.app (o:=1) (n:=1) r1 rfl (RL.nil)):RL w _ (cs.drop 0))
instance:RdOf Tryz.prog 107 (List TSave):=Zv Tryz.underlying107 (by kernel_rfl)
instance:RdOf Tryz.prog 108 TFault where
 size:=by kernel_rfl
 of {H enc w spare held fuel cs x} h:=by
  obtain⟨y0,g0,r0⟩:=Zw (α:=Int) (tt:=3) Tryz.underlying108 h 0 rfl rfl rfl
  obtain⟨y1,g1,r1⟩:=Zw (α:=Int) (tt:=3) Tryz.underlying108 h 1 rfl rfl rfl
  obtain⟨y2,g2,r2⟩:=Zw (α:=Int) (tt:=3) Tryz.underlying108 h 2 rfl rfl rfl
  refine⟨⟨y0,y1,y2⟩,⟨g0,g1,g2⟩,?_,?_⟩
  ·rw[Zx Tryz.underlying108 h]; kernel_rfl
  ·exact (RL.app (o:=0) (n:=1) r0 rfl (RL.app (o:=1) (n:=1) r1 rfl (RL.app (o:=2) (n:=1) r2 rfl (RL.nil))):RL w _ (cs.drop 0))
instance:RdOf Tryz.prog 110 TPeer where
 size:=by kernel_rfl
 of {H enc w spare held fuel cs x} h:=by
  obtain⟨y0,g0,r0⟩:=Zw (α:=Int) (tt:=3) Tryz.underlying110 h 0 rfl rfl rfl
  obtain⟨y1,g1,r1⟩:=Zw (α:=Int) (tt:=3) Tryz.underlying110 h 1 rfl rfl rfl
  obtain⟨y2,g2,r2⟩:=Zw (α:=Int) (tt:=3) Tryz.underlying110 h 2 rfl rfl rfl
  obtain⟨y3,g3,r3⟩:=Zw (α:=Int) (tt:=3) Tryz.underlying110 h 3 rfl rfl rfl
  obtain⟨y4,g4,r4⟩:=Zw (α:=(List TTrack)) (tt:=103) Tryz.underlying110 h 4 rfl rfl rfl
  obtain⟨y5,g5,r5⟩:=Zw (α:=TWorld) (tt:=106) Tryz.underlying110 h 5 rfl rfl rfl
  obtain⟨y6,g6,r6⟩:=Zw (α:=TWorld) (tt:=106) Tryz.underlying110 h 6 rfl rfl rfl
  obtain⟨y7,g7,r7⟩:=Zw (α:=(List (List Int))) (tt:=32) Tryz.underlying110 h 7 rfl rfl rfl
  obtain⟨y8,g8,r8⟩:=Zw (α:=(List TSave)) (tt:=107) Tryz.underlying110 h 8 rfl rfl rfl
  obtain⟨y9,g9,r9⟩:=Zw (α:=(List Int)) (tt:=28) Tryz.underlying110 h 9 rfl rfl rfl
  obtain⟨y10,g10,r10⟩:=Zw (α:=TFault) (tt:=108) Tryz.underlying110 h 10 rfl rfl rfl
  obtain⟨y11,g11,r11⟩:=Zw (α:=Int) (tt:=3) Tryz.underlying110 h 11 rfl rfl rfl
  obtain⟨y12,g12,r12⟩:=Zw (α:=Int) (tt:=3) Tryz.underlying110 h 12 rfl rfl rfl
  refine⟨⟨y0,y1,y2,y3,y4,y5,y6,y7,y8,y9,y10,y11,y12⟩,⟨g0,g1,g2,g3,g4,g5,g6,g7,g8,g9,g10,g11,g12⟩,?_,?_⟩
  ·rw[Zx Tryz.underlying110 h]; kernel_rfl
  ·exact (RL.app (o:=0) (n:=1) r0 rfl (RL.app (o:=1) (n:=1) r1 rfl (RL.app (o:=2) (n:=1) r2 rfl (RL.app (o:=3) (n:=1) r3 rfl (RL.app (o:=4) (n:=1) r4 rfl (RL.app (o:=5) (n:=5) r5 rfl (RL.app (o:=10) (n:=5) r6 rfl (RL.app (o:=15) (n:=1) r7 rfl (RL.app (o:=16) (n:=1) r8 rfl (RL.app (o:=17) (n:=1) r9 rfl (RL.app (o:=18) (n:=3) r10 rfl (RL.app (o:=21) (n:=1) r11 rfl (RL.app (o:=22) (n:=1) r12 rfl (RL.nil))))))))))))):RL w _ (cs.drop 0))
end
section
open Go.ChangeShapes Go.WideShapes Go.ChangeAt Go.RowKit

instance:RdOf Tryz.prog 228 TFlight where
 size:=by kernel_rfl
 of {H enc w spare held fuel cs x} h:=by
  obtain⟨y0,g0,r0⟩:=Zw (α:=Int) (tt:=3) Tryz.underlying228 h 0 rfl rfl rfl
  obtain⟨y1,g1,r1⟩:=Zw (α:=ByteArray) (tt:=9) Tryz.underlying228 h 1 rfl rfl rfl
  refine⟨⟨y0,y1⟩,⟨g0,g1⟩,?_,?_⟩
  ·rw[Zx Tryz.underlying228 h]; kernel_rfl
  ·exact (RL.app (o:=0) (n:=1) r0 rfl (RL.app (o:=1) (n:=1) r1 rfl (RL.nil)):RL w _ (cs.drop 0))
instance:RdOf Tryz.prog 54 (List TFlight):=Zv Tryz.underlying54 (by kernel_rfl)
instance:RdOf Tryz.prog 56 TWire where
 size:=by kernel_rfl
 of {H enc w spare held fuel cs x} h:=by
  obtain⟨y0,g0,r0⟩:=Zw (α:=Int) (tt:=3) Tryz.underlying56 h 0 rfl rfl rfl
  obtain⟨y1,g1,r1⟩:=Zw (α:=Int) (tt:=3) Tryz.underlying56 h 1 rfl rfl rfl
  obtain⟨y2,g2,r2⟩:=Zw (α:=Int) (tt:=3) Tryz.underlying56 h 2 rfl rfl rfl
  obtain⟨y3,g3,r3⟩:=Zw (α:=Int) (tt:=3) Tryz.underlying56 h 3 rfl rfl rfl
  obtain⟨y4,g4,r4⟩:=Zw (α:=Int) (tt:=3) Tryz.underlying56 h 4 rfl rfl rfl
  obtain⟨y5,g5,r5⟩:=Zw (α:=Int) (tt:=3) Tryz.underlying56 h 5 rfl rfl rfl
  obtain⟨y6,g6,r6⟩:=Zw (α:=Int) (tt:=3) Tryz.underlying56 h 6 rfl rfl rfl
  obtain⟨y7,g7,r7⟩:=Zw (α:=(List TFlight)) (tt:=54) Tryz.underlying56 h 7 rfl rfl rfl
  obtain⟨y8,g8,r8⟩:=Zw (α:=Int) (tt:=3) Tryz.underlying56 h 8 rfl rfl rfl
  obtain⟨y9,g9,r9⟩:=Zw (α:=Int) (tt:=3) Tryz.underlying56 h 9 rfl rfl rfl
  refine⟨⟨y0,y1,y2,y3,y4,y5,y6,y7,y8,y9⟩,⟨g0,g1,g2,g3,g4,g5,g6,g7,g8,g9⟩,?_,?_⟩
  ·rw[Zx Tryz.underlying56 h]; kernel_rfl
  ·exact (RL.app (o:=0) (n:=1) r0 rfl (RL.app (o:=1) (n:=1) r1 rfl (RL.app (o:=2) (n:=1) r2 rfl (RL.app (o:=3) (n:=1) r3 rfl (RL.app (o:=4) (n:=1) r4 rfl (RL.app (o:=5) (n:=1) r5 rfl (RL.app (o:=6) (n:=1) r6 rfl (RL.app (o:=7) (n:=1) r7 rfl (RL.app (o:=8) (n:=1) r8 rfl (RL.app (o:=9) (n:=1) r9 rfl (RL.nil)))))))))):RL w _ (cs.drop 0))
instance:RdOf Tryz.prog 93 (List TWire):=Zv Tryz.underlying93 (by kernel_rfl)
instance:RdOf Tryz.prog 90 (List (List TWire)):=Zv Tryz.underlying90 (by kernel_rfl)
instance:RdOf Tryz.prog 298 TPace where
 size:=by kernel_rfl
 of {H enc w spare held fuel cs x} h:=by
  obtain⟨y0,g0,r0⟩:=Zw (α:=Int) (tt:=3) Tryz.underlying298 h 0 rfl rfl rfl
  obtain⟨y1,g1,r1⟩:=Zw (α:=Int) (tt:=3) Tryz.underlying298 h 1 rfl rfl rfl
  obtain⟨y2,g2,r2⟩:=Zw (α:=Int) (tt:=3) Tryz.underlying298 h 2 rfl rfl rfl
  obtain⟨y3,g3,r3⟩:=Zw (α:=Int) (tt:=3) Tryz.underlying298 h 3 rfl rfl rfl
  obtain⟨y4,g4,r4⟩:=Zw (α:=Int) (tt:=3) Tryz.underlying298 h 4 rfl rfl rfl
  refine⟨⟨y0,y1,y2,y3,y4⟩,⟨g0,g1,g2,g3,g4⟩,?_,?_⟩
  ·rw[Zx Tryz.underlying298 h]; kernel_rfl
  ·exact (RL.app (o:=0) (n:=1) r0 rfl (RL.app (o:=1) (n:=1) r1 rfl (RL.app (o:=2) (n:=1) r2 rfl (RL.app (o:=3) (n:=1) r3 rfl (RL.app (o:=4) (n:=1) r4 rfl (RL.nil))))):RL w _ (cs.drop 0))
instance:RdOf Tryz.prog 243 (List TPace):=Zv Tryz.underlying243 (by kernel_rfl)
instance:RdOf Tryz.prog 91 (List (List TPace)):=Zv Tryz.underlying91 (by kernel_rfl)
instance:RdOf Tryz.prog 248 TAlarm where
 size:=by kernel_rfl
 of {H enc w spare held fuel cs x} h:=by
  obtain⟨y0,g0,r0⟩:=Zw (α:=Int) (tt:=3) Tryz.underlying248 h 0 rfl rfl rfl
  obtain⟨y1,g1,r1⟩:=Zw (α:=(List ByteArray)) (tt:=25) Tryz.underlying248 h 1 rfl rfl rfl
  refine⟨⟨y0,y1⟩,⟨g0,g1⟩,?_,?_⟩
  ·rw[Zx Tryz.underlying248 h]; kernel_rfl
  ·exact (RL.app (o:=0) (n:=1) r0 rfl (RL.app (o:=1) (n:=1) r1 rfl (RL.nil)):RL w _ (cs.drop 0))
instance:RdOf Tryz.prog 94 (List TAlarm):=Zv Tryz.underlying94 (by kernel_rfl)
instance:RdOf Tryz.prog 246 TSpectator where
 size:=by kernel_rfl
 of {H enc w spare held fuel cs x} h:=by
  obtain⟨y0,g0,r0⟩:=Zw (α:=TWorld) (tt:=106) Tryz.underlying246 h 0 rfl rfl rfl
  obtain⟨y1,g1,r1⟩:=Zw (α:=Int) (tt:=3) Tryz.underlying246 h 1 rfl rfl rfl
  refine⟨⟨y0,y1⟩,⟨g0,g1⟩,?_,?_⟩
  ·rw[Zx Tryz.underlying246 h]; kernel_rfl
  ·exact (RL.app (o:=0) (n:=5) r0 rfl (RL.app (o:=5) (n:=1) r1 rfl (RL.nil)):RL w _ (cs.drop 0))
instance:RdOf Tryz.prog 92 (List TSpectator):=Zv Tryz.underlying92 (by kernel_rfl)
instance:RdOf Tryz.prog 89 (List TPeer):=Zv Tryz.underlying89 (by kernel_rfl)
instance:RdOf Tryz.prog 96 TMatch where
 size:=by kernel_rfl
 of {H enc w spare held fuel cs x} h:=by
  obtain⟨y0,g0,r0⟩:=Zw (α:=TLevel) (tt:=52) Tryz.underlying96 h 0 rfl rfl rfl
  obtain⟨y1,g1,r1⟩:=Zw (α:=Int) (tt:=3) Tryz.underlying96 h 1 rfl rfl rfl
  obtain⟨y2,g2,r2⟩:=Zw (α:=Int) (tt:=3) Tryz.underlying96 h 2 rfl rfl rfl
  obtain⟨y3,g3,r3⟩:=Zw (α:=(List (List Int))) (tt:=32) Tryz.underlying96 h 3 rfl rfl rfl
  obtain⟨y4,g4,r4⟩:=Zw (α:=(List TPeer)) (tt:=89) Tryz.underlying96 h 4 rfl rfl rfl
  obtain⟨y5,g5,r5⟩:=Zw (α:=(List (List TWire))) (tt:=90) Tryz.underlying96 h 5 rfl rfl rfl
  obtain⟨y6,g6,r6⟩:=Zw (α:=(List (List TPace))) (tt:=91) Tryz.underlying96 h 6 rfl rfl rfl
  obtain⟨y7,g7,r7⟩:=Zw (α:=(List (List Int))) (tt:=32) Tryz.underlying96 h 7 rfl rfl rfl
  obtain⟨y8,g8,r8⟩:=Zw (α:=Int) (tt:=3) Tryz.underlying96 h 8 rfl rfl rfl
  obtain⟨y9,g9,r9⟩:=Zw (α:=(List TSpectator)) (tt:=92) Tryz.underlying96 h 9 rfl rfl rfl
  obtain⟨y10,g10,r10⟩:=Zw (α:=(List TWire)) (tt:=93) Tryz.underlying96 h 10 rfl rfl rfl
  obtain⟨y11,g11,r11⟩:=Zw (α:=(List TAlarm)) (tt:=94) Tryz.underlying96 h 11 rfl rfl rfl
  obtain⟨y12,g12,r12⟩:=Zw (α:=Int) (tt:=3) Tryz.underlying96 h 12 rfl rfl rfl
  refine⟨⟨y0,y1,y2,y3,y4,y5,y6,y7,y8,y9,y10,y11,y12⟩,⟨g0,g1,g2,g3,g4,g5,g6,g7,g8,g9,g10,g11,g12⟩,?_,?_⟩
  ·rw[Zx Tryz.underlying96 h]; kernel_rfl
  ·exact (RL.app (o:=0) (n:=1) r0 rfl (RL.app (o:=1) (n:=1) r1 rfl (RL.app (o:=2) (n:=1) r2 rfl (RL.app (o:=3) (n:=1) r3 rfl (RL.app (o:=4) (n:=1) r4 rfl (RL.app (o:=5) (n:=1) r5 rfl (RL.app (o:=6) (n:=1) r6 rfl (RL.app (o:=7) (n:=1) r7 rfl (RL.app (o:=8) (n:=1) r8 rfl (RL.app (o:=9) (n:=1) r9 rfl (RL.app (o:=10) (n:=1) r10 rfl (RL.app (o:=11) (n:=1) r11 rfl (RL.app (o:=12) (n:=1) r12 rfl (RL.nil))))))))))))):RL w _ (cs.drop 0))
end
end Go.Proofs.YtednjbelfpoecaaGreat
