/-
  Rules, data and contracts of functions: part 33 of the proof.
  Conditions: those that each theorem names.
-/
import Derived.Test.YtoecjaohdnoenaaGreatDDJoinRowk29
import Derived.Test.YtoecjaohdnoenaaGreatDDJoinRowk30
import Derived.Test.YtoecjaohdnoenaaGreatDDJoinRowk31
set_option linter.unusedVariables false
set_option linter.unusedSimpArgs false
set_option maxRecDepth 8000
set_option maxHeartbeats 8000000
namespace Go.Proofs.YtoecjaohdnoenaaGreat
section
open Go.RowKit

theorem to_Match (x:TMatch) (hg:Enc.wt x≤1048576):Con Tryz.prog 41 [] [ag x] [.row 1 (els x.Level.Rows),.row 1 (els x.Scripts),.row 23 (els x.Peers),.row 1 (els x.Wires),.row 1 (els x.Paces),.row 1 (els x.Acks),.row 6 (els x.Watchers),.row 10 (els x.Lines),.row 2 (els x.Alarms)] (.o (.ag [.ref 0,.rd [] (.v (.int .i64 x.Seed)),.rd [] (.v (.int .i64 x.Delay)),.ref 1,.ref 2,.ref 3,.ref 4,.ref 5,.rd [] (.v (.int .i64 x.Clock)),.ref 6,.ref 7,.ref 8,.rd [] (.v (.int .i64 x.Bad))])):=by
 have hw:Enc.wt x=Enc.wt x.Level+Enc.wt x.Scripts+Enc.wt x.Peers+Enc.wt x.Wires+Enc.wt x.Paces+Enc.wt x.Acks+Enc.wt x.Watchers+Enc.wt x.Lines+Enc.wt x.Alarms:=rfl
 refine Con.of Tryz.func41 J Tryz.ntmps41 J (fun E => ?_)
 refine Wz [85,4,1,40,4,162] ?_;refine AL.weak (st':=(⟨_,[(1,.o (.c (.ptr 0 0))),(2,.o (.c (.ptr 1 0))),(3,.o (.c (.ptr 2 0))),(5,.o (.ag ((Enc.e x.Level).map (V1.rd []))))],[.box ((Enc.e x).map (V1.rd [])),.box [.rd [] (.v (.slice none 0 0)),.rd [] (.v (.int .i64 0)),.rd [] (.v (.int .i64 0)),.rd [] (.v (.slice none 0 0)),.rd [] (.v (.slice none 0 0)),.rd [] (.v (.slice none 0 0)),.rd [] (.v (.slice none 0 0)),.rd [] (.v (.slice none 0 0)),.rd [] (.v (.int .i64 0)),.rd [] (.v (.slice none 0 0)),.rd [] (.v (.slice none 0 0)),.rd [] (.v (.slice none 0 0)),.rd [] (.v (.int .i64 0))],.box [.rd [] (.v (.slice none 0 0)),.rd [] (.v (.int .i64 0)),.rd [] (.v (.int .i64 0)),.rd [] (.v (.slice none 0 0)),.rd [] (.v (.slice none 0 0)),.rd [] (.v (.slice none 0 0)),.rd [] (.v (.slice none 0 0)),.rd [] (.v (.slice none 0 0)),.rd [] (.v (.int .i64 0)),.rd [] (.v (.slice none 0 0)),.rd [] (.v (.slice none 0 0)),.rd [] (.v (.slice none 0 0)),.rd [] (.v (.int .i64 0))]]⟩:St)) (Xy [0,1,2] (by kernel_rfl)) ?_;refine M1 (Zm J J (to_Level x.Level (by omega)) J J J) J J ?_;refine Wz [81,30,41,42,42] ?_;refine AL.weak (st':=(⟨_,[(1,.o (.c (.ptr 0 0))),(2,.o (.c (.ptr 1 0))),(3,.o (.c (.ptr 2 0))),(15,L x.Scripts)],[.box ((Enc.e x).map (V1.rd [])),.box [.rd [] (.v (.slice none 0 0)),.rd [] (.v (.int .i64 0)),.rd [] (.v (.int .i64 0)),.rd [] (.v (.slice none 0 0)),.rd [] (.v (.slice none 0 0)),.rd [] (.v (.slice none 0 0)),.rd [] (.v (.slice none 0 0)),.rd [] (.v (.slice none 0 0)),.rd [] (.v (.int .i64 0)),.rd [] (.v (.slice none 0 0)),.rd [] (.v (.slice none 0 0)),.rd [] (.v (.slice none 0 0)),.rd [] (.v (.int .i64 0))],.box [.ref 3,.rd [] (.v (.int .i64 x.Seed)),.rd [] (.v (.int .i64 x.Delay)),.rd [] (.v (.slice none 0 0)),.rd [] (.v (.slice none 0 0)),.rd [] (.v (.slice none 0 0)),.rd [] (.v (.slice none 0 0)),.rd [] (.v (.slice none 0 0)),.rd [] (.v (.int .i64 0)),.rd [] (.v (.slice none 0 0)),.rd [] (.v (.slice none 0 0)),.rd [] (.v (.slice none 0 0)),.rd [] (.v (.int .i64 0))],.row 1 (els x.Level.Rows)]⟩:St)) (Xy [0,1,2,3] (by kernel_rfl)) ?_;refine M1 (Zm J J (to_IntSS x.Scripts (by omega)) J J J) J J ?_;refine Wz [42] ?_;refine AL.weak (st':=(⟨_,[(1,.o (.c (.ptr 0 0))),(2,.o (.c (.ptr 1 0))),(3,.o (.c (.ptr 2 0))),(19,L x.Peers)],[.box ((Enc.e x).map (V1.rd [])),.box [.rd [] (.v (.slice none 0 0)),.rd [] (.v (.int .i64 0)),.rd [] (.v (.int .i64 0)),.rd [] (.v (.slice none 0 0)),.rd [] (.v (.slice none 0 0)),.rd [] (.v (.slice none 0 0)),.rd [] (.v (.slice none 0 0)),.rd [] (.v (.slice none 0 0)),.rd [] (.v (.int .i64 0)),.rd [] (.v (.slice none 0 0)),.rd [] (.v (.slice none 0 0)),.rd [] (.v (.slice none 0 0)),.rd [] (.v (.int .i64 0))],.box [.ref 3,.rd [] (.v (.int .i64 x.Seed)),.rd [] (.v (.int .i64 x.Delay)),.ref 4,.rd [] (.v (.slice none 0 0)),.rd [] (.v (.slice none 0 0)),.rd [] (.v (.slice none 0 0)),.rd [] (.v (.slice none 0 0)),.rd [] (.v (.int .i64 0)),.rd [] (.v (.slice none 0 0)),.rd [] (.v (.slice none 0 0)),.rd [] (.v (.slice none 0 0)),.rd [] (.v (.int .i64 0))],.row 1 (els x.Level.Rows),.row 1 (els x.Scripts)]⟩:St)) (Xy [0,1,2,3,4] (by kernel_rfl)) ?_;refine M1 (Zm J J (to_PeerS x.Peers (by omega)) J J J) J J ?_;refine Wz [42] ?_;refine AL.weak (st':=(⟨_,[(1,.o (.c (.ptr 0 0))),(2,.o (.c (.ptr 1 0))),(3,.o (.c (.ptr 2 0))),(23,L x.Wires)],[.box ((Enc.e x).map (V1.rd [])),.box [.rd [] (.v (.slice none 0 0)),.rd [] (.v (.int .i64 0)),.rd [] (.v (.int .i64 0)),.rd [] (.v (.slice none 0 0)),.rd [] (.v (.slice none 0 0)),.rd [] (.v (.slice none 0 0)),.rd [] (.v (.slice none 0 0)),.rd [] (.v (.slice none 0 0)),.rd [] (.v (.int .i64 0)),.rd [] (.v (.slice none 0 0)),.rd [] (.v (.slice none 0 0)),.rd [] (.v (.slice none 0 0)),.rd [] (.v (.int .i64 0))],.box [.ref 3,.rd [] (.v (.int .i64 x.Seed)),.rd [] (.v (.int .i64 x.Delay)),.ref 4,.ref 5,.rd [] (.v (.slice none 0 0)),.rd [] (.v (.slice none 0 0)),.rd [] (.v (.slice none 0 0)),.rd [] (.v (.int .i64 0)),.rd [] (.v (.slice none 0 0)),.rd [] (.v (.slice none 0 0)),.rd [] (.v (.slice none 0 0)),.rd [] (.v (.int .i64 0))],.row 1 (els x.Level.Rows),.row 1 (els x.Scripts),.row 23 (els x.Peers)]⟩:St)) (Xy [0,1,2,3,4,5] (by kernel_rfl)) ?_;refine M1 (Zm J J (to_WireSS x.Wires (by omega)) J J J) J J ?_;refine Wz [42] ?_;refine AL.weak (st':=(⟨_,[(1,.o (.c (.ptr 0 0))),(2,.o (.c (.ptr 1 0))),(3,.o (.c (.ptr 2 0))),(27,L x.Paces)],[.box ((Enc.e x).map (V1.rd [])),.box [.rd [] (.v (.slice none 0 0)),.rd [] (.v (.int .i64 0)),.rd [] (.v (.int .i64 0)),.rd [] (.v (.slice none 0 0)),.rd [] (.v (.slice none 0 0)),.rd [] (.v (.slice none 0 0)),.rd [] (.v (.slice none 0 0)),.rd [] (.v (.slice none 0 0)),.rd [] (.v (.int .i64 0)),.rd [] (.v (.slice none 0 0)),.rd [] (.v (.slice none 0 0)),.rd [] (.v (.slice none 0 0)),.rd [] (.v (.int .i64 0))],.box [.ref 3,.rd [] (.v (.int .i64 x.Seed)),.rd [] (.v (.int .i64 x.Delay)),.ref 4,.ref 5,.ref 6,.rd [] (.v (.slice none 0 0)),.rd [] (.v (.slice none 0 0)),.rd [] (.v (.int .i64 0)),.rd [] (.v (.slice none 0 0)),.rd [] (.v (.slice none 0 0)),.rd [] (.v (.slice none 0 0)),.rd [] (.v (.int .i64 0))],.row 1 (els x.Level.Rows),.row 1 (els x.Scripts),.row 23 (els x.Peers),.row 1 (els x.Wires)]⟩:St)) (Xy [0,1,2,3,4,5,6] (by kernel_rfl)) ?_;refine M1 (Zm J J (to_PaceSS x.Paces (by omega)) J J J) J J ?_;refine Wz [42] ?_;refine AL.weak (st':=(⟨_,[(1,.o (.c (.ptr 0 0))),(2,.o (.c (.ptr 1 0))),(3,.o (.c (.ptr 2 0))),(31,L x.Acks)],[.box ((Enc.e x).map (V1.rd [])),.box [.rd [] (.v (.slice none 0 0)),.rd [] (.v (.int .i64 0)),.rd [] (.v (.int .i64 0)),.rd [] (.v (.slice none 0 0)),.rd [] (.v (.slice none 0 0)),.rd [] (.v (.slice none 0 0)),.rd [] (.v (.slice none 0 0)),.rd [] (.v (.slice none 0 0)),.rd [] (.v (.int .i64 0)),.rd [] (.v (.slice none 0 0)),.rd [] (.v (.slice none 0 0)),.rd [] (.v (.slice none 0 0)),.rd [] (.v (.int .i64 0))],.box [.ref 3,.rd [] (.v (.int .i64 x.Seed)),.rd [] (.v (.int .i64 x.Delay)),.ref 4,.ref 5,.ref 6,.ref 7,.rd [] (.v (.slice none 0 0)),.rd [] (.v (.int .i64 0)),.rd [] (.v (.slice none 0 0)),.rd [] (.v (.slice none 0 0)),.rd [] (.v (.slice none 0 0)),.rd [] (.v (.int .i64 0))],.row 1 (els x.Level.Rows),.row 1 (els x.Scripts),.row 23 (els x.Peers),.row 1 (els x.Wires),.row 1 (els x.Paces)]⟩:St)) (Xy [0,1,2,3,4,5,6,7] (by kernel_rfl)) ?_;refine M1 (Zm J J (to_IntSS x.Acks (by omega)) J J J) J J ?_;refine Wz [42,42] ?_;refine AL.weak (st':=(⟨_,[(1,.o (.c (.ptr 0 0))),(2,.o (.c (.ptr 1 0))),(3,.o (.c (.ptr 2 0))),(38,L x.Watchers)],[.box ((Enc.e x).map (V1.rd [])),.box [.rd [] (.v (.slice none 0 0)),.rd [] (.v (.int .i64 0)),.rd [] (.v (.int .i64 0)),.rd [] (.v (.slice none 0 0)),.rd [] (.v (.slice none 0 0)),.rd [] (.v (.slice none 0 0)),.rd [] (.v (.slice none 0 0)),.rd [] (.v (.slice none 0 0)),.rd [] (.v (.int .i64 0)),.rd [] (.v (.slice none 0 0)),.rd [] (.v (.slice none 0 0)),.rd [] (.v (.slice none 0 0)),.rd [] (.v (.int .i64 0))],.box [.ref 3,.rd [] (.v (.int .i64 x.Seed)),.rd [] (.v (.int .i64 x.Delay)),.ref 4,.ref 5,.ref 6,.ref 7,.ref 8,.rd [] (.v (.int .i64 x.Clock)),.rd [] (.v (.slice none 0 0)),.rd [] (.v (.slice none 0 0)),.rd [] (.v (.slice none 0 0)),.rd [] (.v (.int .i64 0))],.row 1 (els x.Level.Rows),.row 1 (els x.Scripts),.row 23 (els x.Peers),.row 1 (els x.Wires),.row 1 (els x.Paces),.row 1 (els x.Acks)]⟩:St)) (Xy [0,1,2,3,4,5,6,7,8] (by kernel_rfl)) ?_;refine M1 (Zm J J (to_SpectatorS x.Watchers (by omega)) J J J) J J ?_;refine Wz [42] ?_;refine AL.weak (st':=(⟨_,[(1,.o (.c (.ptr 0 0))),(2,.o (.c (.ptr 1 0))),(3,.o (.c (.ptr 2 0))),(42,L x.Lines)],[.box ((Enc.e x).map (V1.rd [])),.box [.rd [] (.v (.slice none 0 0)),.rd [] (.v (.int .i64 0)),.rd [] (.v (.int .i64 0)),.rd [] (.v (.slice none 0 0)),.rd [] (.v (.slice none 0 0)),.rd [] (.v (.slice none 0 0)),.rd [] (.v (.slice none 0 0)),.rd [] (.v (.slice none 0 0)),.rd [] (.v (.int .i64 0)),.rd [] (.v (.slice none 0 0)),.rd [] (.v (.slice none 0 0)),.rd [] (.v (.slice none 0 0)),.rd [] (.v (.int .i64 0))],.box [.ref 3,.rd [] (.v (.int .i64 x.Seed)),.rd [] (.v (.int .i64 x.Delay)),.ref 4,.ref 5,.ref 6,.ref 7,.ref 8,.rd [] (.v (.int .i64 x.Clock)),.ref 9,.rd [] (.v (.slice none 0 0)),.rd [] (.v (.slice none 0 0)),.rd [] (.v (.int .i64 0))],.row 1 (els x.Level.Rows),.row 1 (els x.Scripts),.row 23 (els x.Peers),.row 1 (els x.Wires),.row 1 (els x.Paces),.row 1 (els x.Acks),.row 6 (els x.Watchers)]⟩:St)) (Xy [0,1,2,3,4,5,6,7,8,9] (by kernel_rfl)) ?_;refine M1 (Zm J J (to_WireS x.Lines (by omega)) J J J) J J ?_;refine Wz [42] ?_;refine AL.weak (st':=(⟨_,[(1,.o (.c (.ptr 0 0))),(2,.o (.c (.ptr 1 0))),(3,.o (.c (.ptr 2 0))),(46,L x.Alarms)],[.box ((Enc.e x).map (V1.rd [])),.box [.rd [] (.v (.slice none 0 0)),.rd [] (.v (.int .i64 0)),.rd [] (.v (.int .i64 0)),.rd [] (.v (.slice none 0 0)),.rd [] (.v (.slice none 0 0)),.rd [] (.v (.slice none 0 0)),.rd [] (.v (.slice none 0 0)),.rd [] (.v (.slice none 0 0)),.rd [] (.v (.int .i64 0)),.rd [] (.v (.slice none 0 0)),.rd [] (.v (.slice none 0 0)),.rd [] (.v (.slice none 0 0)),.rd [] (.v (.int .i64 0))],.box [.ref 3,.rd [] (.v (.int .i64 x.Seed)),.rd [] (.v (.int .i64 x.Delay)),.ref 4,.ref 5,.ref 6,.ref 7,.ref 8,.rd [] (.v (.int .i64 x.Clock)),.ref 9,.ref 10,.rd [] (.v (.slice none 0 0)),.rd [] (.v (.int .i64 0))],.row 1 (els x.Level.Rows),.row 1 (els x.Scripts),.row 23 (els x.Peers),.row 1 (els x.Wires),.row 1 (els x.Paces),.row 1 (els x.Acks),.row 6 (els x.Watchers),.row 10 (els x.Lines)]⟩:St)) (Xy [0,1,2,3,4,5,6,7,8,9,10] (by kernel_rfl)) ?_;refine M1 (Zm J J (to_AlarmS x.Alarms (by omega)) J J J) J J ?_
 refine z2 J J J ?_; first | refine Q4 J J J J J J J J ?_ | refine Qy J J J J J J J J J ?_
 refine Wz [4,41,86,1] ?_;refine AL.weak (st':=(⟨_,[(2,.o (.c (.ptr 1 0))),(3,.o (.c (.ptr 2 0)))],[.box ((Enc.e x).map (V1.rd [])),.box [.rd [] (.v (.slice none 0 0)),.rd [] (.v (.int .i64 0)),.rd [] (.v (.int .i64 0)),.rd [] (.v (.slice none 0 0)),.rd [] (.v (.slice none 0 0)),.rd [] (.v (.slice none 0 0)),.rd [] (.v (.slice none 0 0)),.rd [] (.v (.slice none 0 0)),.rd [] (.v (.int .i64 0)),.rd [] (.v (.slice none 0 0)),.rd [] (.v (.slice none 0 0)),.rd [] (.v (.slice none 0 0)),.rd [] (.v (.int .i64 0))],.box [.ref 3,.rd [] (.v (.int .i64 x.Seed)),.rd [] (.v (.int .i64 x.Delay)),.ref 4,.ref 5,.ref 6,.ref 7,.ref 8,.rd [] (.v (.int .i64 x.Clock)),.ref 9,.ref 10,.ref 11,.rd [] (.v (.int .i64 x.Bad))],.row 1 (els x.Level.Rows),.row 1 (els x.Scripts),.row 23 (els x.Peers),.row 1 (els x.Wires),.row 1 (els x.Paces),.row 1 (els x.Acks),.row 6 (els x.Watchers),.row 10 (els x.Lines),.row 2 (els x.Alarms)]⟩:St)) (Xz [0,1,2,3,4,5,6,7,8,9,10,11] (by decide) J ((by kernel_rfl)) (.c J (.c J (.nil)))) ?_;refine z4 J J J ?_;refine AL.weak (st':=(⟨_,[(2,.o (.c (.ptr 1 0))),(52,.o (.ag [.ref 3,.rd [] (.v (.int .i64 x.Seed)),.rd [] (.v (.int .i64 x.Delay)),.ref 4,.ref 5,.ref 6,.ref 7,.ref 8,.rd [] (.v (.int .i64 x.Clock)),.ref 9,.ref 10,.ref 11,.rd [] (.v (.int .i64 x.Bad))]))],[.box ((Enc.e x).map (V1.rd [])),.box [.rd [] (.v (.slice none 0 0)),.rd [] (.v (.int .i64 0)),.rd [] (.v (.int .i64 0)),.rd [] (.v (.slice none 0 0)),.rd [] (.v (.slice none 0 0)),.rd [] (.v (.slice none 0 0)),.rd [] (.v (.slice none 0 0)),.rd [] (.v (.slice none 0 0)),.rd [] (.v (.int .i64 0)),.rd [] (.v (.slice none 0 0)),.rd [] (.v (.slice none 0 0)),.rd [] (.v (.slice none 0 0)),.rd [] (.v (.int .i64 0))],.box [.ref 3,.rd [] (.v (.int .i64 x.Seed)),.rd [] (.v (.int .i64 x.Delay)),.ref 4,.ref 5,.ref 6,.ref 7,.ref 8,.rd [] (.v (.int .i64 x.Clock)),.ref 9,.ref 10,.ref 11,.rd [] (.v (.int .i64 x.Bad))],.row 1 (els x.Level.Rows),.row 1 (els x.Scripts),.row 23 (els x.Peers),.row 1 (els x.Wires),.row 1 (els x.Paces),.row 1 (els x.Acks),.row 6 (els x.Watchers),.row 10 (els x.Lines),.row 2 (els x.Alarms)]⟩:St)) (Xz [0,1,2,3,4,5,6,7,8,9,10,11] (by decide) J ((by kernel_rfl)) (.c J (.c J (.nil)))) ?_;refine Qy J J J J J J J J J ?_;refine AL.weak (st':=(⟨_,[(2,.o (.c (.ptr 1 0)))],[.box ((Enc.e x).map (V1.rd [])),.box [.ref 3,.rd [] (.v (.int .i64 x.Seed)),.rd [] (.v (.int .i64 x.Delay)),.ref 4,.ref 5,.ref 6,.ref 7,.ref 8,.rd [] (.v (.int .i64 x.Clock)),.ref 9,.ref 10,.ref 11,.rd [] (.v (.int .i64 x.Bad))],.box [.ref 3,.rd [] (.v (.int .i64 x.Seed)),.rd [] (.v (.int .i64 x.Delay)),.ref 4,.ref 5,.ref 6,.ref 7,.ref 8,.rd [] (.v (.int .i64 x.Clock)),.ref 9,.ref 10,.ref 11,.rd [] (.v (.int .i64 x.Bad))],.row 1 (els x.Level.Rows),.row 1 (els x.Scripts),.row 23 (els x.Peers),.row 1 (els x.Wires),.row 1 (els x.Paces),.row 1 (els x.Acks),.row 6 (els x.Watchers),.row 10 (els x.Lines),.row 2 (els x.Alarms)]⟩:St)) (Xz [0,1,2,3,4,5,6,7,8,9,10,11] (by decide) J ((by kernel_rfl)) (.c J (.nil))) ?_;refine Wz [4,99] ?_;refine Xi (cs := [.ref 3,.rd [] (.v (.int .i64 x.Seed)),.rd [] (.v (.int .i64 x.Delay)),.ref 4,.ref 5,.ref 6,.ref 7,.ref 8,.rd [] (.v (.int .i64 x.Clock)),.ref 9,.ref 10,.ref 11,.rd [] (.v (.int .i64 x.Bad))]) J J J J ?_
 exact Xw [3,4,5,6,7,8,9,10,11] (by decide) J (by kernel_rfl) (by kernel_rfl)
theorem sz_Match (x:TMatch) (left:Int) (hg:Enc.gd x) (h0:0≤left) (h1:left≤1048576):Con Tryz.prog 39 [] [ag x,ai left] [] (I (szr (Enc.wt x) left)):=by
 obtain⟨g_Level,g_Seed,g_Delay,g_Scripts,g_Peers,g_Wires,g_Paces,g_Acks,g_Clock,g_Watchers,g_Lines,g_Alarms,g_Bad⟩:=hg
 have hw:Enc.wt x=Enc.wt x.Level+Enc.wt x.Scripts+Enc.wt x.Peers+Enc.wt x.Wires+Enc.wt x.Paces+Enc.wt x.Acks+Enc.wt x.Watchers+Enc.wt x.Lines+Enc.wt x.Alarms:=rfl
 have hm1:decide ((-1:Int)<0)=true:=rfl
 have hc_Level:=sz_Level x.Level (left) g_Level (by omega) (by omega)
 by_cases n_Level:left<Enc.wt x.Level
 ·rw[Kl n_Level] at hc_Level
  refine Con.of Tryz.func39 J Tryz.ntmps39 J (fun E => ?_)
  refine Wz [47,94] ?_;refine zx (Qj J J (hc_Level) J) J ?_;refine Wz [80,23] ?_
  exact Xk J J (Xw [] (by decide) J J (Xn (by rw[Kl (by omega)])))
 rw[Km (by omega)] at hc_Level
 have hb_Level:decide (left-Enc.wt x.Level<0)=false:=Gqa (by omega)
 have hc_Scripts:=sz_IntSS x.Scripts (left-Enc.wt x.Level) g_Scripts (by omega) (by omega)
 by_cases n_Scripts:left-Enc.wt x.Level<Enc.wt x.Scripts
 ·rw[Kl n_Scripts] at hc_Scripts
  refine Con.of Tryz.func39 J Tryz.ntmps39 J (fun E => ?_)
  refine Wz [47,94] ?_;refine zx (Qj J J (hc_Level) J) J ?_;refine Wz [24] ?_;refine zx (Qj J J (hc_Scripts) J) J ?_;refine Wz [80,23] ?_
  exact Xk J J (Xw [] (by decide) J J (Xn (by rw[Kl (by omega)])))
 rw[Km (by omega)] at hc_Scripts
 have hb_Scripts:decide (left-Enc.wt x.Level-Enc.wt x.Scripts<0)=false:=Gqa (by omega)
 have hc_Peers:=sz_PeerS x.Peers (left-Enc.wt x.Level-Enc.wt x.Scripts) g_Peers (by omega) (by omega)
 by_cases n_Peers:left-Enc.wt x.Level-Enc.wt x.Scripts<Enc.wt x.Peers
 ·rw[Kl n_Peers] at hc_Peers
  refine Con.of Tryz.func39 J Tryz.ntmps39 J (fun E => ?_)
  refine Wz [47,94] ?_;refine zx (Qj J J (hc_Level) J) J ?_;refine Wz [24] ?_;refine zx (Qj J J (hc_Scripts) J) J ?_;refine Wz [24] ?_;refine zx (Qj J J (hc_Peers) J) J ?_;refine Wz [80,23] ?_
  exact Xk J J (Xw [] (by decide) J J (Xn (by rw[Kl (by omega)])))
 rw[Km (by omega)] at hc_Peers
 have hb_Peers:decide (left-Enc.wt x.Level-Enc.wt x.Scripts-Enc.wt x.Peers<0)=false:=Gqa (by omega)
 have hc_Wires:=sz_WireSS x.Wires (left-Enc.wt x.Level-Enc.wt x.Scripts-Enc.wt x.Peers) g_Wires (by omega) (by omega)
 by_cases n_Wires:left-Enc.wt x.Level-Enc.wt x.Scripts-Enc.wt x.Peers<Enc.wt x.Wires
 ·rw[Kl n_Wires] at hc_Wires
  refine Con.of Tryz.func39 J Tryz.ntmps39 J (fun E => ?_)
  refine Wz [47,94] ?_;refine zx (Qj J J (hc_Level) J) J ?_;refine Wz [24] ?_;refine zx (Qj J J (hc_Scripts) J) J ?_;refine Wz [24] ?_;refine zx (Qj J J (hc_Peers) J) J ?_;refine Wz [24] ?_;refine zx (Qj J J (hc_Wires) J) J ?_;refine Wz [80,23] ?_
  exact Xk J J (Xw [] (by decide) J J (Xn (by rw[Kl (by omega)])))
 rw[Km (by omega)] at hc_Wires
 have hb_Wires:decide (left-Enc.wt x.Level-Enc.wt x.Scripts-Enc.wt x.Peers-Enc.wt x.Wires<0)=false:=Gqa (by omega)
 have hc_Paces:=sz_PaceSS x.Paces (left-Enc.wt x.Level-Enc.wt x.Scripts-Enc.wt x.Peers-Enc.wt x.Wires) g_Paces (by omega) (by omega)
 by_cases n_Paces:left-Enc.wt x.Level-Enc.wt x.Scripts-Enc.wt x.Peers-Enc.wt x.Wires<Enc.wt x.Paces
 ·rw[Kl n_Paces] at hc_Paces
  refine Con.of Tryz.func39 J Tryz.ntmps39 J (fun E => ?_)
  refine Wz [47,94] ?_;refine zx (Qj J J (hc_Level) J) J ?_;refine Wz [24] ?_;refine zx (Qj J J (hc_Scripts) J) J ?_;refine Wz [24] ?_;refine zx (Qj J J (hc_Peers) J) J ?_;refine Wz [24] ?_;refine zx (Qj J J (hc_Wires) J) J ?_;refine Wz [24] ?_;refine zx (Qj J J (hc_Paces) J) J ?_;refine Wz [80,23] ?_
  exact Xk J J (Xw [] (by decide) J J (Xn (by rw[Kl (by omega)])))
 rw[Km (by omega)] at hc_Paces
 have hb_Paces:decide (left-Enc.wt x.Level-Enc.wt x.Scripts-Enc.wt x.Peers-Enc.wt x.Wires-Enc.wt x.Paces<0)=false:=Gqa (by omega)
 have hc_Acks:=sz_IntSS x.Acks (left-Enc.wt x.Level-Enc.wt x.Scripts-Enc.wt x.Peers-Enc.wt x.Wires-Enc.wt x.Paces) g_Acks (by omega) (by omega)
 by_cases n_Acks:left-Enc.wt x.Level-Enc.wt x.Scripts-Enc.wt x.Peers-Enc.wt x.Wires-Enc.wt x.Paces<Enc.wt x.Acks
 ·rw[Kl n_Acks] at hc_Acks
  refine Con.of Tryz.func39 J Tryz.ntmps39 J (fun E => ?_)
  refine Wz [47,94] ?_;refine zx (Qj J J (hc_Level) J) J ?_;refine Wz [24] ?_;refine zx (Qj J J (hc_Scripts) J) J ?_;refine Wz [24] ?_;refine zx (Qj J J (hc_Peers) J) J ?_;refine Wz [24] ?_;refine zx (Qj J J (hc_Wires) J) J ?_;refine Wz [24] ?_;refine zx (Qj J J (hc_Paces) J) J ?_;refine Wz [24] ?_;refine zx (Qj J J (hc_Acks) J) J ?_;refine Wz [80,23] ?_
  exact Xk J J (Xw [] (by decide) J J (Xn (by rw[Kl (by omega)])))
 rw[Km (by omega)] at hc_Acks
 have hb_Acks:decide (left-Enc.wt x.Level-Enc.wt x.Scripts-Enc.wt x.Peers-Enc.wt x.Wires-Enc.wt x.Paces-Enc.wt x.Acks<0)=false:=Gqa (by omega)
 have hc_Watchers:=sz_SpectatorS x.Watchers (left-Enc.wt x.Level-Enc.wt x.Scripts-Enc.wt x.Peers-Enc.wt x.Wires-Enc.wt x.Paces-Enc.wt x.Acks) g_Watchers (by omega) (by omega)
 by_cases n_Watchers:left-Enc.wt x.Level-Enc.wt x.Scripts-Enc.wt x.Peers-Enc.wt x.Wires-Enc.wt x.Paces-Enc.wt x.Acks<Enc.wt x.Watchers
 ·rw[Kl n_Watchers] at hc_Watchers
  refine Con.of Tryz.func39 J Tryz.ntmps39 J (fun E => ?_)
  refine Wz [47,94] ?_;refine zx (Qj J J (hc_Level) J) J ?_;refine Wz [24] ?_;refine zx (Qj J J (hc_Scripts) J) J ?_;refine Wz [24] ?_;refine zx (Qj J J (hc_Peers) J) J ?_;refine Wz [24] ?_;refine zx (Qj J J (hc_Wires) J) J ?_;refine Wz [24] ?_;refine zx (Qj J J (hc_Paces) J) J ?_;refine Wz [24] ?_;refine zx (Qj J J (hc_Acks) J) J ?_;refine Wz [24] ?_;refine zx (Qj J J (hc_Watchers) J) J ?_;refine Wz [80,23] ?_
  exact Xk J J (Xw [] (by decide) J J (Xn (by rw[Kl (by omega)])))
 rw[Km (by omega)] at hc_Watchers
 have hb_Watchers:decide (left-Enc.wt x.Level-Enc.wt x.Scripts-Enc.wt x.Peers-Enc.wt x.Wires-Enc.wt x.Paces-Enc.wt x.Acks-Enc.wt x.Watchers<0)=false:=Gqa (by omega)
 have hc_Lines:=sz_WireS x.Lines (left-Enc.wt x.Level-Enc.wt x.Scripts-Enc.wt x.Peers-Enc.wt x.Wires-Enc.wt x.Paces-Enc.wt x.Acks-Enc.wt x.Watchers) g_Lines (by omega) (by omega)
 by_cases n_Lines:left-Enc.wt x.Level-Enc.wt x.Scripts-Enc.wt x.Peers-Enc.wt x.Wires-Enc.wt x.Paces-Enc.wt x.Acks-Enc.wt x.Watchers<Enc.wt x.Lines
 ·rw[Kl n_Lines] at hc_Lines
  refine Con.of Tryz.func39 J Tryz.ntmps39 J (fun E => ?_)
  refine Wz [47,94] ?_;refine zx (Qj J J (hc_Level) J) J ?_;refine Wz [24] ?_;refine zx (Qj J J (hc_Scripts) J) J ?_;refine Wz [24] ?_;refine zx (Qj J J (hc_Peers) J) J ?_;refine Wz [24] ?_;refine zx (Qj J J (hc_Wires) J) J ?_;refine Wz [24] ?_;refine zx (Qj J J (hc_Paces) J) J ?_;refine Wz [24] ?_;refine zx (Qj J J (hc_Acks) J) J ?_;refine Wz [24] ?_;refine zx (Qj J J (hc_Watchers) J) J ?_;refine Wz [24] ?_;refine zx (Qj J J (hc_Lines) J) J ?_;refine Wz [80,23] ?_
  exact Xk J J (Xw [] (by decide) J J (Xn (by rw[Kl (by omega)])))
 rw[Km (by omega)] at hc_Lines
 have hb_Lines:decide (left-Enc.wt x.Level-Enc.wt x.Scripts-Enc.wt x.Peers-Enc.wt x.Wires-Enc.wt x.Paces-Enc.wt x.Acks-Enc.wt x.Watchers-Enc.wt x.Lines<0)=false:=Gqa (by omega)
 have hc_Alarms:=sz_AlarmS x.Alarms (left-Enc.wt x.Level-Enc.wt x.Scripts-Enc.wt x.Peers-Enc.wt x.Wires-Enc.wt x.Paces-Enc.wt x.Acks-Enc.wt x.Watchers-Enc.wt x.Lines) g_Alarms (by omega) (by omega)
 by_cases n_Alarms:left-Enc.wt x.Level-Enc.wt x.Scripts-Enc.wt x.Peers-Enc.wt x.Wires-Enc.wt x.Paces-Enc.wt x.Acks-Enc.wt x.Watchers-Enc.wt x.Lines<Enc.wt x.Alarms
 ·rw[Kl n_Alarms] at hc_Alarms
  refine Con.of Tryz.func39 J Tryz.ntmps39 J (fun E => ?_)
  refine Wz [47,94] ?_;refine zx (Qj J J (hc_Level) J) J ?_;refine Wz [24] ?_;refine zx (Qj J J (hc_Scripts) J) J ?_;refine Wz [24] ?_;refine zx (Qj J J (hc_Peers) J) J ?_;refine Wz [24] ?_;refine zx (Qj J J (hc_Wires) J) J ?_;refine Wz [24] ?_;refine zx (Qj J J (hc_Paces) J) J ?_;refine Wz [24] ?_;refine zx (Qj J J (hc_Acks) J) J ?_;refine Wz [24] ?_;refine zx (Qj J J (hc_Watchers) J) J ?_;refine Wz [24] ?_;refine zx (Qj J J (hc_Lines) J) J ?_;refine Wz [24] ?_;refine zx (Qj J J (hc_Alarms) J) J ?_;refine Wz [80,23] ?_
  exact Xk J J (Xw [] (by decide) J J (Xn (by rw[Kl (by omega)])))
 rw[Km (by omega)] at hc_Alarms
 have hb_Alarms:decide (left-Enc.wt x.Level-Enc.wt x.Scripts-Enc.wt x.Peers-Enc.wt x.Wires-Enc.wt x.Paces-Enc.wt x.Acks-Enc.wt x.Watchers-Enc.wt x.Lines-Enc.wt x.Alarms<0)=false:=Gqa (by omega)
 refine Con.of Tryz.func39 J Tryz.ntmps39 J (fun E => ?_)
 refine Wz [47,94] ?_;refine zx (Qj J J (hc_Level) J) J ?_;refine Wz [24] ?_;refine zx (Qj J J (hc_Scripts) J) J ?_;refine Wz [24] ?_;refine zx (Qj J J (hc_Peers) J) J ?_;refine Wz [24] ?_;refine zx (Qj J J (hc_Wires) J) J ?_;refine Wz [24] ?_;refine zx (Qj J J (hc_Paces) J) J ?_;refine Wz [24] ?_;refine zx (Qj J J (hc_Acks) J) J ?_;refine Wz [24] ?_;refine zx (Qj J J (hc_Watchers) J) J ?_;refine Wz [24] ?_;refine zx (Qj J J (hc_Lines) J) J ?_;refine Wz [24] ?_;refine zx (Qj J J (hc_Alarms) J) J ?_;refine Wz [101,166] ?_
 exact Xk J J (Xw [] (by decide) J J (Xn (by rw[Km (by omega)]; omega)))
theorem eq_Match (x y:TMatch) (hg:Enc.gd x):Con Tryz.prog 19 [] [ag x,ag y] [] (B (decide (x=y))):=by
 obtain⟨g_Level,g_Seed,g_Delay,g_Scripts,g_Peers,g_Wires,g_Paces,g_Acks,g_Clock,g_Watchers,g_Lines,g_Alarms,g_Bad⟩:=hg
 by_cases e_Level:¬x.Level=y.Level
 ·have hc:=eq_Level x.Level y.Level g_Level
  rw[Gqa e_Level] at hc
  refine Con.of Tryz.func19 J Tryz.ntmps19 J (fun E => ?_)
  refine Wz [122,55] ?_;refine zx (Qj J J (hc) J) J ?_;refine Wz [3,23] ?_
  exact Xk J J (Xw [] (by decide) J J (Xg (Gqa fun e=>e_Level (by rw[e])).symm))
 have e_Level:=Classical.not_not.1 e_Level
 have hc_Level:=eq_Level x.Level y.Level g_Level
 rw[Gqb e_Level] at hc_Level
 by_cases e_Seed:¬x.Seed=y.Seed
 ·have hk:decide (x.Seed≠y.Seed)=true:=by simp[e_Seed]
  refine Con.of Tryz.func19 J Tryz.ntmps19 J (fun E => ?_)
  refine Wz [122,55] ?_;refine zx (Qj J J (hc_Level) J) J ?_;refine Wz [10,33] ?_
  exact Xk J J (Xw [] (by decide) J J (Xg (Gqa fun e=>e_Seed (by rw[e])).symm))
 have e_Seed:=Classical.not_not.1 e_Seed
 have k_Seed:decide (x.Seed≠y.Seed)=false:=by simp[e_Seed]
 by_cases e_Delay:¬x.Delay=y.Delay
 ·have hk:decide (x.Delay≠y.Delay)=true:=by simp[e_Delay]
  refine Con.of Tryz.func19 J Tryz.ntmps19 J (fun E => ?_)
  refine Wz [122,55] ?_;refine zx (Qj J J (hc_Level) J) J ?_;refine Wz [10,107,33] ?_
  exact Xk J J (Xw [] (by decide) J J (Xg (Gqa fun e=>e_Delay (by rw[e])).symm))
 have e_Delay:=Classical.not_not.1 e_Delay
 have k_Delay:decide (x.Delay≠y.Delay)=false:=by simp[e_Delay]
 by_cases e_Scripts:¬x.Scripts=y.Scripts
 ·have hc:=eq_IntSS x.Scripts y.Scripts g_Scripts
  rw[Gqa e_Scripts] at hc
  refine Con.of Tryz.func19 J Tryz.ntmps19 J (fun E => ?_)
  refine Wz [122,55] ?_;refine zx (Qj J J (hc_Level) J) J ?_;refine Wz [10,114] ?_;refine zx (Qj J J (hc) J) J ?_;refine Wz [3,23] ?_
  exact Xk J J (Xw [] (by decide) J J (Xg (Gqa fun e=>e_Scripts (by rw[e])).symm))
 have e_Scripts:=Classical.not_not.1 e_Scripts
 have hc_Scripts:=eq_IntSS x.Scripts y.Scripts g_Scripts
 rw[Gqb e_Scripts] at hc_Scripts
 by_cases e_Peers:¬x.Peers=y.Peers
 ·have hc:=eq_PeerS x.Peers y.Peers g_Peers
  rw[Gqa e_Peers] at hc
  refine Con.of Tryz.func19 J Tryz.ntmps19 J (fun E => ?_)
  refine Wz [122,55] ?_;refine zx (Qj J J (hc_Level) J) J ?_;refine Wz [10,114] ?_;refine zx (Qj J J (hc_Scripts) J) J ?_;refine Wz [10] ?_;refine zx (Qj J J (hc) J) J ?_;refine Wz [3,23] ?_
  exact Xk J J (Xw [] (by decide) J J (Xg (Gqa fun e=>e_Peers (by rw[e])).symm))
 have e_Peers:=Classical.not_not.1 e_Peers
 have hc_Peers:=eq_PeerS x.Peers y.Peers g_Peers
 rw[Gqb e_Peers] at hc_Peers
 by_cases e_Wires:¬x.Wires=y.Wires
 ·have hc:=eq_WireSS x.Wires y.Wires g_Wires
  rw[Gqa e_Wires] at hc
  refine Con.of Tryz.func19 J Tryz.ntmps19 J (fun E => ?_)
  refine Wz [122,55] ?_;refine zx (Qj J J (hc_Level) J) J ?_;refine Wz [10,114] ?_;refine zx (Qj J J (hc_Scripts) J) J ?_;refine Wz [10] ?_;refine zx (Qj J J (hc_Peers) J) J ?_;refine Wz [10] ?_;refine zx (Qj J J (hc) J) J ?_;refine Wz [3,23] ?_
  exact Xk J J (Xw [] (by decide) J J (Xg (Gqa fun e=>e_Wires (by rw[e])).symm))
 have e_Wires:=Classical.not_not.1 e_Wires
 have hc_Wires:=eq_WireSS x.Wires y.Wires g_Wires
 rw[Gqb e_Wires] at hc_Wires
 by_cases e_Paces:¬x.Paces=y.Paces
 ·have hc:=eq_PaceSS x.Paces y.Paces g_Paces
  rw[Gqa e_Paces] at hc
  refine Con.of Tryz.func19 J Tryz.ntmps19 J (fun E => ?_)
  refine Wz [122,55] ?_;refine zx (Qj J J (hc_Level) J) J ?_;refine Wz [10,114] ?_;refine zx (Qj J J (hc_Scripts) J) J ?_;refine Wz [10] ?_;refine zx (Qj J J (hc_Peers) J) J ?_;refine Wz [10] ?_;refine zx (Qj J J (hc_Wires) J) J ?_;refine Wz [10] ?_;refine zx (Qj J J (hc) J) J ?_;refine Wz [3,23] ?_
  exact Xk J J (Xw [] (by decide) J J (Xg (Gqa fun e=>e_Paces (by rw[e])).symm))
 have e_Paces:=Classical.not_not.1 e_Paces
 have hc_Paces:=eq_PaceSS x.Paces y.Paces g_Paces
 rw[Gqb e_Paces] at hc_Paces
 by_cases e_Acks:¬x.Acks=y.Acks
 ·have hc:=eq_IntSS x.Acks y.Acks g_Acks
  rw[Gqa e_Acks] at hc
  refine Con.of Tryz.func19 J Tryz.ntmps19 J (fun E => ?_)
  refine Wz [122,55] ?_;refine zx (Qj J J (hc_Level) J) J ?_;refine Wz [10,114] ?_;refine zx (Qj J J (hc_Scripts) J) J ?_;refine Wz [10] ?_;refine zx (Qj J J (hc_Peers) J) J ?_;refine Wz [10] ?_;refine zx (Qj J J (hc_Wires) J) J ?_;refine Wz [10] ?_;refine zx (Qj J J (hc_Paces) J) J ?_;refine Wz [10] ?_;refine zx (Qj J J (hc) J) J ?_;refine Wz [3,23] ?_
  exact Xk J J (Xw [] (by decide) J J (Xg (Gqa fun e=>e_Acks (by rw[e])).symm))
 have e_Acks:=Classical.not_not.1 e_Acks
 have hc_Acks:=eq_IntSS x.Acks y.Acks g_Acks
 rw[Gqb e_Acks] at hc_Acks
 by_cases e_Clock:¬x.Clock=y.Clock
 ·have hk:decide (x.Clock≠y.Clock)=true:=by simp[e_Clock]
  refine Con.of Tryz.func19 J Tryz.ntmps19 J (fun E => ?_)
  refine Wz [122,55] ?_;refine zx (Qj J J (hc_Level) J) J ?_;refine Wz [10,114] ?_;refine zx (Qj J J (hc_Scripts) J) J ?_;refine Wz [10] ?_;refine zx (Qj J J (hc_Peers) J) J ?_;refine Wz [10] ?_;refine zx (Qj J J (hc_Wires) J) J ?_;refine Wz [10] ?_;refine zx (Qj J J (hc_Paces) J) J ?_;refine Wz [10] ?_;refine zx (Qj J J (hc_Acks) J) J ?_;refine Wz [10,33] ?_
  exact Xk J J (Xw [] (by decide) J J (Xg (Gqa fun e=>e_Clock (by rw[e])).symm))
 have e_Clock:=Classical.not_not.1 e_Clock
 have k_Clock:decide (x.Clock≠y.Clock)=false:=by simp[e_Clock]
 by_cases e_Watchers:¬x.Watchers=y.Watchers
 ·have hc:=eq_SpectatorS x.Watchers y.Watchers g_Watchers
  rw[Gqa e_Watchers] at hc
  refine Con.of Tryz.func19 J Tryz.ntmps19 J (fun E => ?_)
  refine Wz [122,55] ?_;refine zx (Qj J J (hc_Level) J) J ?_;refine Wz [10,114] ?_;refine zx (Qj J J (hc_Scripts) J) J ?_;refine Wz [10] ?_;refine zx (Qj J J (hc_Peers) J) J ?_;refine Wz [10] ?_;refine zx (Qj J J (hc_Wires) J) J ?_;refine Wz [10] ?_;refine zx (Qj J J (hc_Paces) J) J ?_;refine Wz [10] ?_;refine zx (Qj J J (hc_Acks) J) J ?_;refine Wz [10,107] ?_;refine zx (Qj J J (hc) J) J ?_;refine Wz [3,23] ?_
  exact Xk J J (Xw [] (by decide) J J (Xg (Gqa fun e=>e_Watchers (by rw[e])).symm))
 have e_Watchers:=Classical.not_not.1 e_Watchers
 have hc_Watchers:=eq_SpectatorS x.Watchers y.Watchers g_Watchers
 rw[Gqb e_Watchers] at hc_Watchers
 by_cases e_Lines:¬x.Lines=y.Lines
 ·have hc:=eq_WireS x.Lines y.Lines g_Lines
  rw[Gqa e_Lines] at hc
  refine Con.of Tryz.func19 J Tryz.ntmps19 J (fun E => ?_)
  refine Wz [122,55] ?_;refine zx (Qj J J (hc_Level) J) J ?_;refine Wz [10,114] ?_;refine zx (Qj J J (hc_Scripts) J) J ?_;refine Wz [10] ?_;refine zx (Qj J J (hc_Peers) J) J ?_;refine Wz [10] ?_;refine zx (Qj J J (hc_Wires) J) J ?_;refine Wz [10] ?_;refine zx (Qj J J (hc_Paces) J) J ?_;refine Wz [10] ?_;refine zx (Qj J J (hc_Acks) J) J ?_;refine Wz [10,107] ?_;refine zx (Qj J J (hc_Watchers) J) J ?_;refine Wz [10] ?_;refine zx (Qj J J (hc) J) J ?_;refine Wz [3,23] ?_
  exact Xk J J (Xw [] (by decide) J J (Xg (Gqa fun e=>e_Lines (by rw[e])).symm))
 have e_Lines:=Classical.not_not.1 e_Lines
 have hc_Lines:=eq_WireS x.Lines y.Lines g_Lines
 rw[Gqb e_Lines] at hc_Lines
 by_cases e_Alarms:¬x.Alarms=y.Alarms
 ·have hc:=eq_AlarmS x.Alarms y.Alarms g_Alarms
  rw[Gqa e_Alarms] at hc
  refine Con.of Tryz.func19 J Tryz.ntmps19 J (fun E => ?_)
  refine Wz [122,55] ?_;refine zx (Qj J J (hc_Level) J) J ?_;refine Wz [10,114] ?_;refine zx (Qj J J (hc_Scripts) J) J ?_;refine Wz [10] ?_;refine zx (Qj J J (hc_Peers) J) J ?_;refine Wz [10] ?_;refine zx (Qj J J (hc_Wires) J) J ?_;refine Wz [10] ?_;refine zx (Qj J J (hc_Paces) J) J ?_;refine Wz [10] ?_;refine zx (Qj J J (hc_Acks) J) J ?_;refine Wz [10,107] ?_;refine zx (Qj J J (hc_Watchers) J) J ?_;refine Wz [10] ?_;refine zx (Qj J J (hc_Lines) J) J ?_;refine Wz [10] ?_;refine zx (Qj J J (hc) J) J ?_;refine Wz [3,23] ?_
  exact Xk J J (Xw [] (by decide) J J (Xg (Gqa fun e=>e_Alarms (by rw[e])).symm))
 have e_Alarms:=Classical.not_not.1 e_Alarms
 have hc_Alarms:=eq_AlarmS x.Alarms y.Alarms g_Alarms
 rw[Gqb e_Alarms] at hc_Alarms
 by_cases e_Bad:¬x.Bad=y.Bad
 ·have hk:decide (x.Bad≠y.Bad)=true:=by simp[e_Bad]
  refine Con.of Tryz.func19 J Tryz.ntmps19 J (fun E => ?_)
  refine Wz [122,55] ?_;refine zx (Qj J J (hc_Level) J) J ?_;refine Wz [10,114] ?_;refine zx (Qj J J (hc_Scripts) J) J ?_;refine Wz [10] ?_;refine zx (Qj J J (hc_Peers) J) J ?_;refine Wz [10] ?_;refine zx (Qj J J (hc_Wires) J) J ?_;refine Wz [10] ?_;refine zx (Qj J J (hc_Paces) J) J ?_;refine Wz [10] ?_;refine zx (Qj J J (hc_Acks) J) J ?_;refine Wz [10,107] ?_;refine zx (Qj J J (hc_Watchers) J) J ?_;refine Wz [10] ?_;refine zx (Qj J J (hc_Lines) J) J ?_;refine Wz [10] ?_;refine zx (Qj J J (hc_Alarms) J) J ?_;refine Wz [10,33] ?_
  exact Xk J J (Xw [] (by decide) J J (Xg (Gqa fun e=>e_Bad (by rw[e])).symm))
 have e_Bad:=Classical.not_not.1 e_Bad
 have k_Bad:decide (x.Bad≠y.Bad)=false:=by simp[e_Bad]
 refine Con.of Tryz.func19 J Tryz.ntmps19 J (fun E => ?_)
 refine Wz [122,55] ?_;refine zx (Qj J J (hc_Level) J) J ?_;refine Wz [10,114] ?_;refine zx (Qj J J (hc_Scripts) J) J ?_;refine Wz [10] ?_;refine zx (Qj J J (hc_Peers) J) J ?_;refine Wz [10] ?_;refine zx (Qj J J (hc_Wires) J) J ?_;refine Wz [10] ?_;refine zx (Qj J J (hc_Paces) J) J ?_;refine Wz [10] ?_;refine zx (Qj J J (hc_Acks) J) J ?_;refine Wz [10,107] ?_;refine zx (Qj J J (hc_Watchers) J) J ?_;refine Wz [10] ?_;refine zx (Qj J J (hc_Lines) J) J ?_;refine Wz [10] ?_;refine zx (Qj J J (hc_Alarms) J) J ?_;refine Wz [10,83,54,61] ?_
 exact Xk J J (Xw [] (by decide) J J (Xg (Gqb (TMatch.same e_Level e_Seed e_Delay e_Scripts e_Peers e_Wires e_Paces e_Acks e_Clock e_Watchers e_Lines e_Alarms e_Bad)).symm))
end
section
open Go.RowKit

theorem rw_lev (lv:TLevel) (s:ByteArray):(rwW (readWorld lv s)).Level=lv∨(rwW (readWorld lv s)).Level=zeroWorld.Level:=by
 cases hu:unpackInts s 0 with
 |none=>rw[Kb hu]; exact .inr rfl
 |some q =>
  obtain⟨l,pos⟩:=q
  by_cases hp:pos=s.size∧formOk l∧worldOk (worldOf lv l)=true
  ·rw[Kc hu hp]; exact .inl rfl
  ·rw[Ka hu hp]; exact .inr rfl
theorem joinV_in {x:TMatch} (g:Enc.gd x) (hw:Enc.wt x≤1048576):Enc.gd (joinV x)∧Enc.wt (joinV x)≤8388608:=by
 rw[joinV]
 split
 ·rename_i hb
  have hm:matchOk x=true:=by rw[joinB] at hb; exact (Gqk _ _▸hb).1
  refine⟨joinN_gd g hw hm,?_⟩
  obtain⟨p,u,v,hp,he,hu,hv,hL,n1,n4,w3,k3⟩:=join_at hm
  have wr:WorIn (rwW (joinR x)):=read_in g.1 (lev_inJ hw) (snap_len _)
  have hx:Enc.wt x=Enc.wt x.Level+Enc.wt x.Scripts+Enc.wt x.Peers+Enc.wt x.Wires+Enc.wt x.Paces+Enc.wt x.Acks+Enc.wt x.Watchers+Enc.wt x.Lines+Enc.wt x.Alarms:=rfl
  have e1:Enc.wt (joinN x)=Enc.wt x.Level+Enc.wt x.Scripts+Enc.wt x.Peers+Enc.wt x.Wires+Enc.wt x.Paces+Enc.wt x.Acks+Enc.wt (x.Watchers ++ [(⟨rwW (joinR x),0⟩:TSpectator)])+Enc.wt (x.Lines ++ [joinL x])+Enc.wt x.Alarms:=rfl
  rw[wt_snoc,wt_snoc] at e1
  have e2:Enc.wt (⟨rwW (joinR x),0⟩:TSpectator)=Enc.wt (rwW (joinR x)).Level+((rwW (joinR x)).Scores.length+wts (rwW (joinR x)).Scores)+((rwW (joinR x)).Bodies.length+wts (rwW (joinR x)).Bodies):=rfl
  rw[wts_int,wts_body] at e2
  have e3:Enc.wt (joinL x)=0:=rfl
  have e4:Enc.wt (rwW (joinR x)).Level≤Enc.wt x.Level:=by
   rcases rw_lev x.Level (snapshotOf (x.Peers.getD 0 zP0)) with e | e
   ·rw[joinR,e]; exact Gqj _
   ·rw[joinR,e]; exact Gxh _
  have h2:=wr.h2
  have h3:=wr.h3
  omega
 ·exact⟨g,by omega⟩
theorem law_JoinWatcher (x:TMatch) (g_x:Enc.gd x):Con Tryz.prog 8 [] [ag x] [] (B true):=by
 have hz:=sz_Match x (1048576) g_x (by omega) (by omega)
 by_cases n_x:(1048576:Int)<Enc.wt x
 ·rw[Kl n_x] at hz
  refine Con.of Tryz.func8 J Tryz.ntmps8 J (fun E => ?_)
  refine Wz [47,1,5,45,0] ?_;refine zx (Qj J J (hz) J) J ?_;refine Wz [46] ?_;refine zx (Qr (b:=true) J J J J (by decide)) J ?_;refine Wz [23] ?_
  exact Xk J J (Xw [] (by decide) J J J)
 rw[Km (by omega)] at hz
 have hb:decide ((1048576:Int)-Enc.wt x<0)=false:=Gqa (by omega)
 have ht:=to_Match x (by omega)
 have hq:=eq_Match x x g_x
 rw[Gqb rfl] at hq
 have hmi:MatchIn x:=⟨g_x,by omega⟩
 have hsp:=S_JoinWatcher x hmi
 have hip:=I_JoinWatcher x hmi
 obtain⟨g_y,w_y⟩:=joinV_in g_x (by omega)
 generalize joinV x=y at hsp hip g_y w_y
 generalize joinB x=b at hsp hip
 have hq1:=eq_Match y y g_y
 rw[Gqb rfl] at hq1
 obtain⟨k1,k2⟩:=nM_le x 1
 obtain⟨k3,k4⟩:=nM_le y 1
 have hm_x:=L_mkMatch x 1 g_x (by omega) (by omega)
 have hm_y:=L_mkMatch y 1 g_y (by omega) (by omega)
 have hh:=L_hdMatch y 1 g_y (by omega) (by omega)
 have hk1:decide (n9M x 1<0)=false:=Gqa (by omega)
 have hk2:decide (n9M y 1<0)=false:=Gqa (by omega)
 refine Con.of Tryz.func8 J Tryz.ntmps8 J (fun E => ?_)
 refine Wz [47,1,5,45,0] ?_;refine zx (Qj J J (hz) J) J ?_;refine Wz [101,45] ?_;refine M1 (Zm J J (ht) J J J) J J ?_;refine AL.weak (st':=(⟨96,[(1,.o (.c (.ptr 0 0))),(21,.o (.ag (mC x 1)))],[.box ((Enc.e x).map (V1.rd [])),.row 1 (els x.Level.Rows),.row 1 (els x.Scripts),.row 23 (els x.Peers),.row 1 (els x.Wires),.row 1 (els x.Paces),.row 1 (els x.Acks),.row 6 (els x.Watchers),.row 10 (els x.Lines),.row 2 (els x.Alarms)]⟩:St)) (Xz [0,1,2,3,4,5,6,7,8,9] (by decide) J ((by kernel_rfl)) (.c J (.c J (.nil)))) ?_;refine M1 (Zm J J (hsp) J J J) J J ?_;refine AL.weak (st':=(⟨96,[(1,.o (.c (.ptr 0 0))),(22,.tu [.ag (mC y 1),.c (bv b)])],[.box ((Enc.e x).map (V1.rd [])),.row 1 (els y.Level.Rows),.row 1 (els y.Scripts),.row 23 (els y.Peers),.row 1 (els y.Wires),.row 1 (els y.Paces),.row 1 (els y.Acks),.row 6 (els y.Watchers),.row 10 (els y.Lines),.row 2 (els y.Alarms)]⟩:St)) (Xz [0,10,11,12,13,14,15,16,17,18] (by decide) J ((by kernel_rfl)) (.c J (.c J (.nil)))) ?_;refine Wz [134,135,40,77,5,45] ?_;refine AL.weak (st':=(⟨96,[(1,.o (.c (.ptr 0 0))),(4,.o (.c (.ptr 10 0))),(5,B b),(25,.o (.ag ((Enc.e x).map (V1.rd []))))],[.box ((Enc.e x).map (V1.rd [])),.row 1 (els y.Level.Rows),.row 1 (els y.Scripts),.row 23 (els y.Peers),.row 1 (els y.Wires),.row 1 (els y.Paces),.row 1 (els y.Acks),.row 6 (els y.Watchers),.row 10 (els y.Lines),.row 2 (els y.Alarms),.box (mC y 1)]⟩:St)) (Xz [0,1,2,3,4,5,6,7,8,9,10] (by decide) J ((by kernel_rfl)) (.c J (.c J (.c J (.c J (.nil)))))) ?_;refine M1 (Zm J J (ht) J J J) J J ?_;refine AL.weak (st':=(⟨96,[(1,.o (.c (.ptr 0 0))),(4,.o (.c (.ptr 10 0))),(5,B b),(26,.o (.ag (mC x 11)))],[.box ((Enc.e x).map (V1.rd [])),.row 1 (els y.Level.Rows),.row 1 (els y.Scripts),.row 23 (els y.Peers),.row 1 (els y.Wires),.row 1 (els y.Paces),.row 1 (els y.Acks),.row 6 (els y.Watchers),.row 10 (els y.Lines),.row 2 (els y.Alarms),.box (mC y 1),.row 1 (els x.Level.Rows),.row 1 (els x.Scripts),.row 23 (els x.Peers),.row 1 (els x.Wires),.row 1 (els x.Paces),.row 1 (els x.Acks),.row 6 (els x.Watchers),.row 10 (els x.Lines),.row 2 (els x.Alarms)]⟩:St)) (Xz [0,1,2,3,4,5,6,7,8,9,10,11,12,13,14,15,16,17,18,19] (by decide) J ((by kernel_rfl)) (.c J (.c J (.c J (.c J (.nil)))))) ?_;refine Wz [40,77] ?_;refine AL.weak (st':=(⟨96,[(1,.o (.c (.ptr 0 0))),(4,.o (.c (.ptr 10 0))),(5,B b),(6,.o (.c (.ptr 20 0)))],[.box ((Enc.e x).map (V1.rd [])),.row 1 (els y.Level.Rows),.row 1 (els y.Scripts),.row 23 (els y.Peers),.row 1 (els y.Wires),.row 1 (els y.Paces),.row 1 (els y.Acks),.row 6 (els y.Watchers),.row 10 (els y.Lines),.row 2 (els y.Alarms),.box (mC y 1),.row 1 (els x.Level.Rows),.row 1 (els x.Scripts),.row 23 (els x.Peers),.row 1 (els x.Wires),.row 1 (els x.Paces),.row 1 (els x.Acks),.row 6 (els x.Watchers),.row 10 (els x.Lines),.row 2 (els x.Alarms),.box (mC x 11)]⟩:St)) (Xz [0,1,2,3,4,5,6,7,8,9,10,11,12,13,14,15,16,17,18,19,20] (by decide) J ((by kernel_rfl)) (.c J (.c J (.c J (.c J (.nil)))))) ?_;refine Wz [4,45] ?_;refine M1 (Zm J J (hip) J J J) J J ?_;refine AL.weak (st':=(⟨96,[(1,.o (.c (.ptr 0 0))),(4,.o (.c (.ptr 10 0))),(5,B b),(6,.o (.c (.ptr 20 0))),(29,.tu [.ag (mC y 21),.c (bv b)])],[.box ((Enc.e x).map (V1.rd [])),.row 1 (els y.Level.Rows),.row 1 (els y.Scripts),.row 23 (els y.Peers),.row 1 (els y.Wires),.row 1 (els y.Paces),.row 1 (els y.Acks),.row 6 (els y.Watchers),.row 10 (els y.Lines),.row 2 (els y.Alarms),.box (mC y 1),.row 1 (els x.Level.Rows),.row 1 (els x.Scripts),.row 23 (els x.Peers),.row 1 (els x.Wires),.row 1 (els x.Paces),.row 1 (els x.Acks),.row 6 (els x.Watchers),.row 10 (els x.Lines),.row 2 (els x.Alarms),.box (mC x 11),.row 1 (els y.Level.Rows),.row 1 (els y.Scripts),.row 23 (els y.Peers),.row 1 (els y.Wires),.row 1 (els y.Paces),.row 1 (els y.Acks),.row 6 (els y.Watchers),.row 10 (els y.Lines),.row 2 (els y.Alarms)]⟩:St)) (Xz [0,1,2,3,4,5,6,7,8,9,10,11,12,13,14,15,16,17,18,19,20,21,22,23,24,25,26,27,28,29] (by decide) J ((by kernel_rfl)) (.c J (.c J (.c J (.c J (.c J (.nil))))))) ?_;refine Wz [134,135,40,77,36,53,53] ?_;refine AL.weak (st':=(⟨96,[(1,.o (.c (.ptr 0 0))),(4,.o (.c (.ptr 10 0))),(5,B b),(6,.o (.c (.ptr 20 0))),(7,.o (.c (.ptr 30 0))),(8,B b),(32,.o (.ag (mC y 21))),(33,.o (.ag (mC y 1)))],[.box ((Enc.e x).map (V1.rd [])),.row 1 (els y.Level.Rows),.row 1 (els y.Scripts),.row 23 (els y.Peers),.row 1 (els y.Wires),.row 1 (els y.Paces),.row 1 (els y.Acks),.row 6 (els y.Watchers),.row 10 (els y.Lines),.row 2 (els y.Alarms),.box (mC y 1),.row 1 (els x.Level.Rows),.row 1 (els x.Scripts),.row 23 (els x.Peers),.row 1 (els x.Wires),.row 1 (els x.Paces),.row 1 (els x.Acks),.row 6 (els x.Watchers),.row 10 (els x.Lines),.row 2 (els x.Alarms),.box (mC x 11),.row 1 (els y.Level.Rows),.row 1 (els y.Scripts),.row 23 (els y.Peers),.row 1 (els y.Wires),.row 1 (els y.Paces),.row 1 (els y.Acks),.row 6 (els y.Watchers),.row 10 (els y.Lines),.row 2 (els y.Alarms),.box (mC y 21)]⟩:St)) (Xz [0,1,2,3,4,5,6,7,8,9,10,11,12,13,14,15,16,17,18,19,20,21,22,23,24,25,26,27,28,29,30] (by decide) J ((by kernel_rfl)) (.c J (.c J (.c J (.c J (.c J (.c J (.c J (.c J (.nil)))))))))) ?_;refine zx (Qj J J (hq1) J) J ?_;refine Wz [3,22,26,282,15,54,20,20] ?_
 refine AWP.pre (st':=(⟨96,[(1,.o (.c (.ptr 0 0))),(4,.o (.c (.ptr 10 0))),(5,B b),(6,.o (.c (.ptr 20 0))),(7,.o (.c (.ptr 30 0))),(8,B b)],[.box ((Enc.e x).map (V1.rd [])),.row 1 (els y.Level.Rows),.row 1 (els y.Scripts),.row 23 (els y.Peers),.row 1 (els y.Wires),.row 1 (els y.Paces),.row 1 (els y.Acks),.row 6 (els y.Watchers),.row 10 (els y.Lines),.row 2 (els y.Alarms),.box (mC y 1),.row 1 (els x.Level.Rows),.row 1 (els x.Scripts),.row 23 (els x.Peers),.row 1 (els x.Wires),.row 1 (els x.Paces),.row 1 (els x.Acks),.row 6 (els x.Watchers),.row 10 (els x.Lines),.row 2 (els x.Alarms),.box (mC x 11),.row 1 (els y.Level.Rows),.row 1 (els y.Scripts),.row 23 (els y.Peers),.row 1 (els y.Wires),.row 1 (els y.Paces),.row 1 (els y.Acks),.row 6 (els y.Watchers),.row 10 (els y.Lines),.row 2 (els y.Alarms),.box (mC y 21)]⟩:St)) ?_ (Xz [0,1,2,3,4,5,6,7,8,9,10,11,12,13,14,15,16,17,18,19,20,21,22,23,24,25,26,27,28,29,30] (by decide) J ((by kernel_rfl)) (.c J (.c J (.c J (.c J (.c J (.c J (.nil))))))))
 refine Xe [[],[],[1],[0,1,2],(u9 4)] [[],[],[42],[41,42,43],[41,42,43,44]] [[42,43],[41],[41],[],[]] J ?_;refine Wz [197,197] ?_;refine DR.s (Zm J J (ht) J J J) J J ?_;refine DR.s (Qj J J (hq) J) J J ?_;refine Wz [65,12,4] ?_
 refine AWP.pre (st':=(⟨96,[(1,.o (.c (.ptr 0 0))),(4,.o (.c (.ptr 10 0))),(5,B b),(6,.o (.c (.ptr 20 0))),(7,.o (.c (.ptr 30 0))),(8,B b),(45,B false)],[.box ((Enc.e x).map (V1.rd [])),.row 1 (els y.Level.Rows),.row 1 (els y.Scripts),.row 23 (els y.Peers),.row 1 (els y.Wires),.row 1 (els y.Paces),.row 1 (els y.Acks),.row 6 (els y.Watchers),.row 10 (els y.Lines),.row 2 (els y.Alarms),.box (mC y 1),.row 1 (els x.Level.Rows),.row 1 (els x.Scripts),.row 23 (els x.Peers),.row 1 (els x.Wires),.row 1 (els x.Paces),.row 1 (els x.Acks),.row 6 (els x.Watchers),.row 10 (els x.Lines),.row 2 (els x.Alarms),.box (mC x 11),.row 1 (els y.Level.Rows),.row 1 (els y.Scripts),.row 23 (els y.Peers),.row 1 (els y.Wires),.row 1 (els y.Paces),.row 1 (els y.Acks),.row 6 (els y.Watchers),.row 10 (els y.Lines),.row 2 (els y.Alarms),.box (mC y 21)]⟩:St)) ?_ (Xz [0,1,2,3,4,5,6,7,8,9,10,11,12,13,14,15,16,17,18,19,20,21,22,23,24,25,26,27,28,29,30] (by decide) J ((by kernel_rfl)) (.c J (.c J (.c J (.c J (.c J (.c J (.c J (.nil)))))))))
 refine Wz [109,64,1,5,45,0] ?_;refine Xb (lo := [_,_,_,_,_,_,_,_,_]) (gs := [(0,.ag (mC x 0))]) (lo' := [_,_,_,_,_,_,_,_,_]) (new := []) [11,12,13,14,15,16,17,18,19] [(0,0,.ref 0),(0,3,.ref 1),(0,4,.ref 2),(0,5,.ref 3),(0,6,.ref 4),(0,7,.ref 5),(0,9,.ref 6),(0,10,.ref 7),(0,11,.ref 8)] (hm_x) J J J J J J J J J J J J J J J J J ?_;refine AL.weak (st':=(⟨96,[(1,.o (.c (.ptr 0 0))),(4,.o (.c (.ptr 10 0))),(5,B b),(7,.o (.c (.ptr 20 0))),(8,B b),(48,I (n9M x 1))],[.box ((Enc.e x).map (V1.rd [])),.row 1 (els y.Level.Rows),.row 1 (els y.Scripts),.row 23 (els y.Peers),.row 1 (els y.Wires),.row 1 (els y.Paces),.row 1 (els y.Acks),.row 6 (els y.Watchers),.row 10 (els y.Lines),.row 2 (els y.Alarms),.box (mC y 1),.row 1 (els y.Level.Rows),.row 1 (els y.Scripts),.row 23 (els y.Peers),.row 1 (els y.Wires),.row 1 (els y.Paces),.row 1 (els y.Acks),.row 6 (els y.Watchers),.row 10 (els y.Lines),.row 2 (els y.Alarms),.box (mC y 11)]⟩:St)) (Xz [0,1,2,3,4,5,6,7,8,9,10,21,22,23,24,25,26,27,28,29,30] (by decide) J ((by kernel_rfl)) (.c J (.c J (.c J (.c J (.c J (.c J (.nil)))))))) ?_;refine Wz [80,26,53,2,53,2] ?_;refine zx (Qj J J (hq1) J) J ?_;refine Wz [2,3,15,22,26,282,15,54,1,5,45,0] ?_;refine Xb (lo := [_,_,_,_,_,_,_,_,_]) (gs := [(0,.ag (mC y 0))]) (lo' := [_,_,_,_,_,_,_,_,_]) (new := []) [11,12,13,14,15,16,17,18,19] [(0,0,.ref 0),(0,3,.ref 1),(0,4,.ref 2),(0,5,.ref 3),(0,6,.ref 4),(0,7,.ref 5),(0,9,.ref 6),(0,10,.ref 7),(0,11,.ref 8)] (hm_y) J J J J J J J J J J J J J J J J J ?_;refine AL.weak (st':=(⟨96,[(1,.o (.c (.ptr 0 0))),(4,.o (.c (.ptr 10 0))),(5,B b),(7,.o (.c (.ptr 20 0))),(8,B b),(64,I (n9M y 1))],[.box ((Enc.e x).map (V1.rd [])),.row 1 (els y.Level.Rows),.row 1 (els y.Scripts),.row 23 (els y.Peers),.row 1 (els y.Wires),.row 1 (els y.Paces),.row 1 (els y.Acks),.row 6 (els y.Watchers),.row 10 (els y.Lines),.row 2 (els y.Alarms),.box (mC y 1),.row 1 (mkEs (els y.Level.Rows) 1),.row 1 (mkEs (els y.Scripts) (n1M y 1)),.row 23 (mkEs (els y.Peers) (n2M y 1)),.row 1 (mkEs (els y.Wires) (n3M y 1)),.row 1 (mkEs (els y.Paces) (n4M y 1)),.row 1 (mkEs (els y.Acks) (n5M y 1)),.row 6 (mkEs (els y.Watchers) (n6M y 1)),.row 10 (mkEs (els y.Lines) (n7M y 1)),.row 2 (mkEs (els y.Alarms) (n8M y 1)),.box (mC y 11)]⟩:St)) (Xz [0,1,2,3,4,5,6,7,8,9,10,11,12,13,14,15,16,17,18,19,20] (by decide) J ((by kernel_rfl)) (.c J (.c J (.c J (.c J (.c J (.c J (.nil)))))))) ?_;refine Wz [5,1,5,45,0] ?_;refine zx (Qj J J (hh) J) J ?_;refine Wz [80,39,131,287,45] ?_;refine M1 (Zm J J (ht) J J J) J J ?_;refine AL.weak (st':=(⟨96,[(1,.o (.c (.ptr 0 0))),(4,.o (.c (.ptr 10 0))),(5,B b),(7,.o (.c (.ptr 20 0))),(8,B b),(10,I (n9M y 1)),(75,.o (.ag (mC x 21)))],[.box ((Enc.e x).map (V1.rd [])),.row 1 (els y.Level.Rows),.row 1 (els y.Scripts),.row 23 (els y.Peers),.row 1 (els y.Wires),.row 1 (els y.Paces),.row 1 (els y.Acks),.row 6 (els y.Watchers),.row 10 (els y.Lines),.row 2 (els y.Alarms),.box (mC y 1),.row 1 (mkEs (els y.Level.Rows) 1),.row 1 (mkEs (els y.Scripts) (n1M y 1)),.row 23 (mkEs (els y.Peers) (n2M y 1)),.row 1 (mkEs (els y.Wires) (n3M y 1)),.row 1 (mkEs (els y.Paces) (n4M y 1)),.row 1 (mkEs (els y.Acks) (n5M y 1)),.row 6 (mkEs (els y.Watchers) (n6M y 1)),.row 10 (mkEs (els y.Lines) (n7M y 1)),.row 2 (mkEs (els y.Alarms) (n8M y 1)),.box (mC y 11),.row 1 (els x.Level.Rows),.row 1 (els x.Scripts),.row 23 (els x.Peers),.row 1 (els x.Wires),.row 1 (els x.Paces),.row 1 (els x.Acks),.row 6 (els x.Watchers),.row 10 (els x.Lines),.row 2 (els x.Alarms)]⟩:St)) (Xz [0,1,2,3,4,5,6,7,8,9,10,11,12,13,14,15,16,17,18,19,20,21,22,23,24,25,26,27,28,29] (by decide) J ((by kernel_rfl)) (.c J (.c J (.c J (.c J (.c J (.c J (.c J (.nil))))))))) ?_;refine M1 (Zm J J (hip) J J J) J J ?_;refine AL.weak (st':=(⟨96,[(1,.o (.c (.ptr 0 0))),(4,.o (.c (.ptr 10 0))),(5,B b),(7,.o (.c (.ptr 20 0))),(8,B b),(10,I (n9M y 1)),(76,.tu [.ag (mC y 21),.c (bv b)])],[.box ((Enc.e x).map (V1.rd [])),.row 1 (els y.Level.Rows),.row 1 (els y.Scripts),.row 23 (els y.Peers),.row 1 (els y.Wires),.row 1 (els y.Paces),.row 1 (els y.Acks),.row 6 (els y.Watchers),.row 10 (els y.Lines),.row 2 (els y.Alarms),.box (mC y 1),.row 1 (mkEs (els y.Level.Rows) 1),.row 1 (mkEs (els y.Scripts) (n1M y 1)),.row 23 (mkEs (els y.Peers) (n2M y 1)),.row 1 (mkEs (els y.Wires) (n3M y 1)),.row 1 (mkEs (els y.Paces) (n4M y 1)),.row 1 (mkEs (els y.Acks) (n5M y 1)),.row 6 (mkEs (els y.Watchers) (n6M y 1)),.row 10 (mkEs (els y.Lines) (n7M y 1)),.row 2 (mkEs (els y.Alarms) (n8M y 1)),.box (mC y 11),.row 1 (els y.Level.Rows),.row 1 (els y.Scripts),.row 23 (els y.Peers),.row 1 (els y.Wires),.row 1 (els y.Paces),.row 1 (els y.Acks),.row 6 (els y.Watchers),.row 10 (els y.Lines),.row 2 (els y.Alarms)]⟩:St)) (Xz [0,1,2,3,4,5,6,7,8,9,10,11,12,13,14,15,16,17,18,19,20,30,31,32,33,34,35,36,37,38] (by decide) J ((by kernel_rfl)) (.c J (.c J (.c J (.c J (.c J (.c J (.c J (.nil))))))))) ?_;refine Wz [134,135,40,77,36,53,53] ?_;refine AL.weak (st':=(⟨96,[(1,.o (.c (.ptr 0 0))),(4,.o (.c (.ptr 10 0))),(5,B b),(7,.o (.c (.ptr 20 0))),(8,B b),(10,I (n9M y 1)),(12,.o (.c (.ptr 30 0))),(13,B b),(79,.o (.ag (mC y 21))),(80,.o (.ag (mC y 1)))],[.box ((Enc.e x).map (V1.rd [])),.row 1 (els y.Level.Rows),.row 1 (els y.Scripts),.row 23 (els y.Peers),.row 1 (els y.Wires),.row 1 (els y.Paces),.row 1 (els y.Acks),.row 6 (els y.Watchers),.row 10 (els y.Lines),.row 2 (els y.Alarms),.box (mC y 1),.row 1 (mkEs (els y.Level.Rows) 1),.row 1 (mkEs (els y.Scripts) (n1M y 1)),.row 23 (mkEs (els y.Peers) (n2M y 1)),.row 1 (mkEs (els y.Wires) (n3M y 1)),.row 1 (mkEs (els y.Paces) (n4M y 1)),.row 1 (mkEs (els y.Acks) (n5M y 1)),.row 6 (mkEs (els y.Watchers) (n6M y 1)),.row 10 (mkEs (els y.Lines) (n7M y 1)),.row 2 (mkEs (els y.Alarms) (n8M y 1)),.box (mC y 11),.row 1 (els y.Level.Rows),.row 1 (els y.Scripts),.row 23 (els y.Peers),.row 1 (els y.Wires),.row 1 (els y.Paces),.row 1 (els y.Acks),.row 6 (els y.Watchers),.row 10 (els y.Lines),.row 2 (els y.Alarms),.box (mC y 21)]⟩:St)) (Xz [0,1,2,3,4,5,6,7,8,9,10,11,12,13,14,15,16,17,18,19,20,21,22,23,24,25,26,27,28,29,30] (by decide) J ((by kernel_rfl)) (.c J (.c J (.c J (.c J (.c J (.c J (.c J (.c J (.c J (.c J (.nil)))))))))))) ?_;refine zx (Qj J J (hq1) J) J ?_;refine Wz [3,22,26,282,15,54,1,5,45,0] ?_;refine zx (Qj J J (hh) J) J ?_;refine Wz [80,39,131,287,61] ?_
 exact Xk J J (Xw [] (by decide) J J J)
end
section
open Go.ChangeShapes Go.WideShapes Go.ChangeAt Go.RowKit

def RL (w:World) (ts:List T) (cs:List Value):Prop:=∀ (j:Nat) (t:T) (u:Value),ts[j]? = some t→cs[j]? = some u→RO w (fun _=>True) t u
theorem RL.nil {w:World} {cs:List Value}:RL w [] cs:=fun _ _ _ h=>by simp at h
theorem RL.app {w:World} {ts us:List T} {cs:List Value} {o n:Nat} (h1:RL w ts ((cs.drop o).take n)) (hn:ts.length=n) (h2:RL w us (cs.drop (o+n))):RL w (ts++us) (cs.drop o):=fun j t u h3 h4=>by
 rcases Gqq j ts.length with hj | hj
 ·rw[Gq1 hj] at h3
  exact h1 j t u h3 (by rw[Gxc,if_pos (by omega)]; exact h4)
 ·rw[Gqv hj] at h3
  refine h2 (j-ts.length) t u h3 ?_
  rw[Gxg] at h4 ⊢
  rw[←h4]
  congr 1
  omega
theorem Kd {P:Program} {t tt:TypeId} {fs:Array Field} {f:Field} {α:Type} [Enc α] {H:Type} {enc:TypeId×Value→H} {w:World} {spare:Nat→Bool} {held:Bool} {fuel:Nat} {cs:List Value} {x:DataW H×List MemPlace}
  (ht:P.underlying t=some (.struct fs)) (h:DataW.trod enc P w 0 spare held fuel t cs=some x) (i:Nat) (hf:fs[i]? = some f) (hty:f.type=tt) [hα:RdOf P tt α] {o:Nat} (ho:f.offset=o) :
  ∃ y:α,Enc.gd y∧RL w (Enc.e y) ((cs.drop o).take (Enc.k α)):=by
 obtain⟨xs,n,_,_,hl,hlen,hfs⟩:=DataW.trod_struct ht h
 have h1:=hfs i f hf
 have hi:i<fs.size:=by
  rcases Gqq i fs.size with h2 | h2
  ·exact h2
  ·rw[Array.getElem?_eq_none h2] at hf; cases hf
 rw[Gqg (by omega),hty,ho,hα.size] at h1
 obtain⟨y,hg,hr⟩:=hα.of h1
 exact⟨y,hg,hr.2⟩
theorem Ke {P:Program} {t:TypeId} {fs:Array Field} {H:Type} {enc:TypeId×Value→H} {w:World} {spare:Nat→Bool} {held:Bool} {fuel:Nat} {cs:List Value} {x:DataW H×List MemPlace}
  (ht:P.underlying t=some (.struct fs)) (h:DataW.trod enc P w 0 spare held fuel t cs=some x):cs.length=P.cellsOf t:=by
 obtain⟨xs,n,_,_,hl,_⟩:=DataW.trod_struct ht h
 exact hl

instance:RdOf Tryz.prog 3 Int:=rdOf_int Tryz.underlying3 (by kernel_rfl)
instance:RdOf Tryz.prog 9 ByteArray:=rdOf_string Tryz.underlying9 (by kernel_rfl)
instance:RdOf Tryz.prog 64 (List Int):=Z9 Tryz.underlying64 (by kernel_rfl)
instance:RdOf Tryz.prog 22 (List ByteArray):=Z9 Tryz.underlying22 (by kernel_rfl)
instance:RdOf Tryz.prog 25 (List (List Int)):=Z9 Tryz.underlying25 (by kernel_rfl)
instance:RdOf Tryz.prog 24 TLevel where
 size:=by kernel_rfl
 of {H enc w spare held fuel cs x} h:=by
  obtain⟨y0,g0,r0⟩:=Kd (α:=(List ByteArray)) (tt:=22) Tryz.underlying24 h 0 rfl rfl rfl
  refine⟨⟨y0⟩,g0,?_,?_⟩
  ·rw[Ke Tryz.underlying24 h]; kernel_rfl
  ·exact (RL.app (o:=0) (n:=1) r0 rfl (RL.nil):RL w _ (cs.drop 0))
end
section
open Go.ChangeShapes Go.WideShapes Go.ChangeAt Go.RowKit

instance:RdOf Tryz.prog 261 TBody where
 size:=by kernel_rfl
 of {H enc w spare held fuel cs x} h:=by
  obtain⟨y0,g0,r0⟩:=Kd (α:=Int) (tt:=3) Tryz.underlying261 h 0 rfl rfl rfl
  obtain⟨y1,g1,r1⟩:=Kd (α:=Int) (tt:=3) Tryz.underlying261 h 1 rfl rfl rfl
  obtain⟨y2,g2,r2⟩:=Kd (α:=Int) (tt:=3) Tryz.underlying261 h 2 rfl rfl rfl
  obtain⟨y3,g3,r3⟩:=Kd (α:=Int) (tt:=3) Tryz.underlying261 h 3 rfl rfl rfl
  obtain⟨y4,g4,r4⟩:=Kd (α:=Int) (tt:=3) Tryz.underlying261 h 4 rfl rfl rfl
  obtain⟨y5,g5,r5⟩:=Kd (α:=Int) (tt:=3) Tryz.underlying261 h 5 rfl rfl rfl
  obtain⟨y6,g6,r6⟩:=Kd (α:=Int) (tt:=3) Tryz.underlying261 h 6 rfl rfl rfl
  obtain⟨y7,g7,r7⟩:=Kd (α:=Int) (tt:=3) Tryz.underlying261 h 7 rfl rfl rfl
  obtain⟨y8,g8,r8⟩:=Kd (α:=Int) (tt:=3) Tryz.underlying261 h 8 rfl rfl rfl
  refine⟨⟨y0,y1,y2,y3,y4,y5,y6,y7,y8⟩,⟨g0,g1,g2,g3,g4,g5,g6,g7,g8⟩,?_,?_⟩
  ·rw[Ke Tryz.underlying261 h]; kernel_rfl
  ·exact (RL.app (o:=0) (n:=1) r0 rfl (RL.app (o:=1) (n:=1) r1 rfl (RL.app (o:=2) (n:=1) r2 rfl (RL.app (o:=3) (n:=1) r3 rfl (RL.app (o:=4) (n:=1) r4 rfl (RL.app (o:=5) (n:=1) r5 rfl (RL.app (o:=6) (n:=1) r6 rfl (RL.app (o:=7) (n:=1) r7 rfl (RL.app (o:=8) (n:=1) r8 rfl (RL.nil))))))))):RL w _ (cs.drop 0))
instance:RdOf Tryz.prog 65 (List TBody):=Z9 Tryz.underlying65 (by kernel_rfl)
instance:RdOf Tryz.prog 67 TWorld where
 size:=by kernel_rfl
 of {H enc w spare held fuel cs x} h:=by
  obtain⟨y0,g0,r0⟩:=Kd (α:=TLevel) (tt:=24) Tryz.underlying67 h 0 rfl rfl rfl
  obtain⟨y1,g1,r1⟩:=Kd (α:=Int) (tt:=3) Tryz.underlying67 h 1 rfl rfl rfl
  obtain⟨y2,g2,r2⟩:=Kd (α:=Int) (tt:=3) Tryz.underlying67 h 2 rfl rfl rfl
  obtain⟨y3,g3,r3⟩:=Kd (α:=(List Int)) (tt:=64) Tryz.underlying67 h 3 rfl rfl rfl
  obtain⟨y4,g4,r4⟩:=Kd (α:=(List TBody)) (tt:=65) Tryz.underlying67 h 4 rfl rfl rfl
  refine⟨⟨y0,y1,y2,y3,y4⟩,⟨g0,g1,g2,g3,g4⟩,?_,?_⟩
  ·rw[Ke Tryz.underlying67 h]; kernel_rfl
  ·exact (RL.app (o:=0) (n:=1) r0 rfl (RL.app (o:=1) (n:=1) r1 rfl (RL.app (o:=2) (n:=1) r2 rfl (RL.app (o:=3) (n:=1) r3 rfl (RL.app (o:=4) (n:=1) r4 rfl (RL.nil))))):RL w _ (cs.drop 0))
end
end Go.Proofs.YtoecjaohdnoenaaGreat
