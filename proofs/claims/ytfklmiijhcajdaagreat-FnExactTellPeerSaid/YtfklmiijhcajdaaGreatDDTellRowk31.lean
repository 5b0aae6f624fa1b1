/-
  Rules, data and contracts of functions: part 32 of the proof.
  Conditions: those that each theorem names.
-/
import Derived.Test.YtfklmiijhcajdaaGreatDDTellRowk28
import Derived.Test.YtfklmiijhcajdaaGreatDDTellRowk29
import Derived.Test.YtfklmiijhcajdaaGreatDDTellRowk30
set_option linter.unusedVariables false
set_option linter.unusedSimpArgs false
set_option maxRecDepth 8000
set_option maxHeartbeats 8000000
namespace Go.Proofs.YtfklmiijhcajdaaGreat
section
open Go.RowKit

theorem to_Match (x:TMatch) (hg:Enc.wt x≤1048576):Con Tryz.prog 16 [] [ag x] (mR x []) (.o (.ag [.ref 0,Aqh x.Seed,Aqh x.Delay,.ref 1,.ref 2,.ref 3,.ref 4,.ref 5,Aqh x.Clock,.ref 6,.ref 7,.ref 8,Aqh x.Bad])):=by
 have hw:Enc.wt x=Enc.wt x.Level+Enc.wt x.Scripts+Enc.wt x.Peers+Enc.wt x.Wires+Enc.wt x.Paces+Enc.wt x.Acks+Enc.wt x.Watchers+Enc.wt x.Lines+Enc.wt x.Alarms:=rfl
 refine Con.of Tryz.func16 J Tryz.ntmps16 J (fun E => ?_)
 refine Wz [76,52,3,52,152] ?_;refine AL.weak (st':=(⟨_,[(1,Aqf 0),(2,Aqf 1),(3,Aqf 2),(5,.o (.ag ((Enc.e x.Level).map (V1.rd []))))],[.box (Aqi x),.box [Aqj,Aqh 0,Aqh 0,Aqj,Aqj,Aqj,Aqj,Aqj,Aqh 0,Aqj,Aqj,Aqj,Aqh 0],.box [Aqj,Aqh 0,Aqh 0,Aqj,Aqj,Aqj,Aqj,Aqj,Aqh 0,Aqj,Aqj,Aqj,Aqh 0]]⟩:St)) (X3 [0,1,2] Aqb) ?_;refine M1 (Zs J J (to_Level x.Level Aqa) J J J) J J ?_;refine Wz [55,48,23,45,45] ?_;refine AL.weak (st':=(⟨_,[(1,Aqf 0),(2,Aqf 1),(3,Aqf 2),(15,L x.Scripts)],[.box (Aqi x),.box [Aqj,Aqh 0,Aqh 0,Aqj,Aqj,Aqj,Aqj,Aqj,Aqh 0,Aqj,Aqj,Aqj,Aqh 0],.box [.ref 3,Aqh x.Seed,Aqh x.Delay,Aqj,Aqj,Aqj,Aqj,Aqj,Aqh 0,Aqj,Aqj,Aqj,Aqh 0],.row 1 (els x.Level.Rows)]⟩:St)) (X3 [0,1,2,3] Aqb) ?_;refine M1 (Zs J J (to_IntSS x.Scripts Aqa) J J J) J J ?_;refine Wz [45] ?_;refine AL.weak (st':=(⟨_,[(1,Aqf 0),(2,Aqf 1),(3,Aqf 2),(19,L x.Peers)],[.box (Aqi x),.box [Aqj,Aqh 0,Aqh 0,Aqj,Aqj,Aqj,Aqj,Aqj,Aqh 0,Aqj,Aqj,Aqj,Aqh 0],.box [.ref 3,Aqh x.Seed,Aqh x.Delay,.ref 4,Aqj,Aqj,Aqj,Aqj,Aqh 0,Aqj,Aqj,Aqj,Aqh 0],.row 1 (els x.Level.Rows),.row 1 (els x.Scripts)]⟩:St)) (X3 [0,1,2,3,4] Aqb) ?_;refine M1 (Zs J J (to_PeerS x.Peers Aqa) J J J) J J ?_;refine Wz [45] ?_;refine AL.weak (st':=(⟨_,[(1,Aqf 0),(2,Aqf 1),(3,Aqf 2),(23,L x.Wires)],[.box (Aqi x),.box [Aqj,Aqh 0,Aqh 0,Aqj,Aqj,Aqj,Aqj,Aqj,Aqh 0,Aqj,Aqj,Aqj,Aqh 0],.box [.ref 3,Aqh x.Seed,Aqh x.Delay,.ref 4,.ref 5,Aqj,Aqj,Aqj,Aqh 0,Aqj,Aqj,Aqj,Aqh 0],.row 1 (els x.Level.Rows),.row 1 (els x.Scripts),.row 23 (els x.Peers)]⟩:St)) (X3 [0,1,2,3,4,5] Aqb) ?_;refine M1 (Zs J J (to_WireSS x.Wires Aqa) J J J) J J ?_;refine Wz [45] ?_;refine AL.weak (st':=(⟨_,[(1,Aqf 0),(2,Aqf 1),(3,Aqf 2),(27,L x.Paces)],[.box (Aqi x),.box [Aqj,Aqh 0,Aqh 0,Aqj,Aqj,Aqj,Aqj,Aqj,Aqh 0,Aqj,Aqj,Aqj,Aqh 0],.box [.ref 3,Aqh x.Seed,Aqh x.Delay,.ref 4,.ref 5,.ref 6,Aqj,Aqj,Aqh 0,Aqj,Aqj,Aqj,Aqh 0],.row 1 (els x.Level.Rows),.row 1 (els x.Scripts),.row 23 (els x.Peers),.row 1 (els x.Wires)]⟩:St)) (X3 [0,1,2,3,4,5,6] Aqb) ?_;refine M1 (Zs J J (to_PaceSS x.Paces Aqa) J J J) J J ?_;refine Wz [45] ?_;refine AL.weak (st':=(⟨_,[(1,Aqf 0),(2,Aqf 1),(3,Aqf 2),(31,L x.Acks)],[.box (Aqi x),.box [Aqj,Aqh 0,Aqh 0,Aqj,Aqj,Aqj,Aqj,Aqj,Aqh 0,Aqj,Aqj,Aqj,Aqh 0],.box [.ref 3,Aqh x.Seed,Aqh x.Delay,.ref 4,.ref 5,.ref 6,.ref 7,Aqj,Aqh 0,Aqj,Aqj,Aqj,Aqh 0],.row 1 (els x.Level.Rows),.row 1 (els x.Scripts),.row 23 (els x.Peers),.row 1 (els x.Wires),.row 1 (els x.Paces)]⟩:St)) (X3 [0,1,2,3,4,5,6,7] Aqb) ?_;refine M1 (Zs J J (to_IntSS x.Acks Aqa) J J J) J J ?_;refine Wz [45,45] ?_;refine AL.weak (st':=(⟨_,[(1,Aqf 0),(2,Aqf 1),(3,Aqf 2),(38,L x.Watchers)],[.box (Aqi x),.box [Aqj,Aqh 0,Aqh 0,Aqj,Aqj,Aqj,Aqj,Aqj,Aqh 0,Aqj,Aqj,Aqj,Aqh 0],.box [.ref 3,Aqh x.Seed,Aqh x.Delay,.ref 4,.ref 5,.ref 6,.ref 7,.ref 8,Aqh x.Clock,Aqj,Aqj,Aqj,Aqh 0],.row 1 (els x.Level.Rows),.row 1 (els x.Scripts),.row 23 (els x.Peers),.row 1 (els x.Wires),.row 1 (els x.Paces),.row 1 (els x.Acks)]⟩:St)) (X3 [0,1,2,3,4,5,6,7,8] Aqb) ?_;refine M1 (Zs J J (to_SpectatorS x.Watchers Aqa) J J J) J J ?_;refine Wz [45] ?_;refine AL.weak (st':=(⟨_,[(1,Aqf 0),(2,Aqf 1),(3,Aqf 2),(42,L x.Lines)],[.box (Aqi x),.box [Aqj,Aqh 0,Aqh 0,Aqj,Aqj,Aqj,Aqj,Aqj,Aqh 0,Aqj,Aqj,Aqj,Aqh 0],.box [.ref 3,Aqh x.Seed,Aqh x.Delay,.ref 4,.ref 5,.ref 6,.ref 7,.ref 8,Aqh x.Clock,.ref 9,Aqj,Aqj,Aqh 0],.row 1 (els x.Level.Rows),.row 1 (els x.Scripts),.row 23 (els x.Peers),.row 1 (els x.Wires),.row 1 (els x.Paces),.row 1 (els x.Acks),.row 6 (els x.Watchers)]⟩:St)) (X3 [0,1,2,3,4,5,6,7,8,9] Aqb) ?_;refine M1 (Zs J J (to_WireS x.Lines Aqa) J J J) J J ?_;refine Wz [45] ?_;refine AL.weak (st':=(⟨_,[(1,Aqf 0),(2,Aqf 1),(3,Aqf 2),(46,L x.Alarms)],[.box (Aqi x),.box [Aqj,Aqh 0,Aqh 0,Aqj,Aqj,Aqj,Aqj,Aqj,Aqh 0,Aqj,Aqj,Aqj,Aqh 0],.box [.ref 3,Aqh x.Seed,Aqh x.Delay,.ref 4,.ref 5,.ref 6,.ref 7,.ref 8,Aqh x.Clock,.ref 9,.ref 10,Aqj,Aqh 0],.row 1 (els x.Level.Rows),.row 1 (els x.Scripts),.row 23 (els x.Peers),.row 1 (els x.Wires),.row 1 (els x.Paces),.row 1 (els x.Acks),.row 6 (els x.Watchers),.row 10 (els x.Lines)]⟩:St)) (X3 [0,1,2,3,4,5,6,7,8,9,10] Aqb) ?_;refine M1 (Zs J J (to_AlarmS x.Alarms Aqa) J J J) J J ?_
 refine z2 J J J ?_; first | refine Q5 J J J J J J J J ?_ | refine Qy J J J J J J J J J ?_
 refine Wz [6,23,30,3] ?_;refine AL.weak (st':=(⟨_,[(2,Aqf 1),(3,Aqf 2)],.box (Aqi x)::.box [Aqj,Aqh 0,Aqh 0,Aqj,Aqj,Aqj,Aqj,Aqj,Aqh 0,Aqj,Aqj,Aqj,Aqh 0]::.box [.ref 3,Aqh x.Seed,Aqh x.Delay,.ref 4,.ref 5,.ref 6,.ref 7,.ref 8,Aqh x.Clock,.ref 9,.ref 10,.ref 11,Aqh x.Bad]::mR x []⟩:St)) (X4 [0,1,2,3,4,5,6,7,8,9,10,11] Aqc J ( Aqb) (.c J (.c J (.nil)))) ?_;refine z4 J J J ?_;refine AL.weak (st':=(⟨_,[(2,Aqf 1),(52,.o (.ag [.ref 3,Aqh x.Seed,Aqh x.Delay,.ref 4,.ref 5,.ref 6,.ref 7,.ref 8,Aqh x.Clock,.ref 9,.ref 10,.ref 11,Aqh x.Bad]))],.box (Aqi x)::.box [Aqj,Aqh 0,Aqh 0,Aqj,Aqj,Aqj,Aqj,Aqj,Aqh 0,Aqj,Aqj,Aqj,Aqh 0]::.box [.ref 3,Aqh x.Seed,Aqh x.Delay,.ref 4,.ref 5,.ref 6,.ref 7,.ref 8,Aqh x.Clock,.ref 9,.ref 10,.ref 11,Aqh x.Bad]::mR x []⟩:St)) (X4 [0,1,2,3,4,5,6,7,8,9,10,11] Aqc J ( Aqb) (.c J (.c J (.nil)))) ?_;refine Qy J J J J J J J J J ?_;refine AL.weak (st':=(⟨_,[(2,Aqf 1)],.box (Aqi x)::.box [.ref 3,Aqh x.Seed,Aqh x.Delay,.ref 4,.ref 5,.ref 6,.ref 7,.ref 8,Aqh x.Clock,.ref 9,.ref 10,.ref 11,Aqh x.Bad]::.box [.ref 3,Aqh x.Seed,Aqh x.Delay,.ref 4,.ref 5,.ref 6,.ref 7,.ref 8,Aqh x.Clock,.ref 9,.ref 10,.ref 11,Aqh x.Bad]::mR x []⟩:St)) (X4 [0,1,2,3,4,5,6,7,8,9,10,11] Aqc J ( Aqb) (.c J (.nil))) ?_;refine Wz [6,49] ?_;refine Xk (cs := [.ref 3,Aqh x.Seed,Aqh x.Delay,.ref 4,.ref 5,.ref 6,.ref 7,.ref 8,Aqh x.Clock,.ref 9,.ref 10,.ref 11,Aqh x.Bad]) J J J J ?_
 exact X1 [3,4,5,6,7,8,9,10,11] Aqc J Aqb Aqb 
theorem sz_Match (x:TMatch) (left:Int) (hg:Enc.gd x) (h0:0≤left) (h1:left≤1048576):Con Tryz.prog 14 [] [ag x,ai left] [] (I (szr (Enc.wt x) left)):=by
 obtain⟨g_Level,g_Seed,g_Delay,g_Scripts,g_Peers,g_Wires,g_Paces,g_Acks,g_Clock,g_Watchers,g_Lines,g_Alarms,g_Bad⟩:=hg
 have hw:Enc.wt x=Enc.wt x.Level+Enc.wt x.Scripts+Enc.wt x.Peers+Enc.wt x.Wires+Enc.wt x.Paces+Enc.wt x.Acks+Enc.wt x.Watchers+Enc.wt x.Lines+Enc.wt x.Alarms:=rfl
 have hm1:decide ((-1:Int)<0)=true:=rfl
 have hc_Level:=sz_Level x.Level (left) g_Level Aqa Aqa 
 by_cases n_Level:left<Enc.wt x.Level
 ·rw[Kq n_Level] at hc_Level
  refine Con.of Tryz.func14 J Tryz.ntmps14 J (fun E => ?_)
  refine Wz [21,101] ?_;refine zx (Qj J J (hc_Level) J) J ?_;refine Wz [119,26] ?_
  exact Xl J J (X1 [] Aqc J J (Xq (by rw[Kq Aqa])))
 rw[Kr Aqa] at hc_Level
 have hb_Level:decide (left-Enc.wt x.Level<0)=false:=Gqa Aqa 
 have hc_Scripts:=sz_IntSS x.Scripts (left-Enc.wt x.Level) g_Scripts Aqa Aqa 
 by_cases n_Scripts:left-Enc.wt x.Level<Enc.wt x.Scripts
 ·rw[Kq n_Scripts] at hc_Scripts
  refine Con.of Tryz.func14 J Tryz.ntmps14 J (fun E => ?_)
  refine Wz [21,101] ?_;refine zx (Qj J J (hc_Level) J) J ?_;refine Wz [27] ?_;refine zx (Qj J J (hc_Scripts) J) J ?_;refine Wz [119,26] ?_
  exact Xl J J (X1 [] Aqc J J (Xq (by rw[Kq Aqa])))
 rw[Kr Aqa] at hc_Scripts
 have hb_Scripts:decide (left-Enc.wt x.Level-Enc.wt x.Scripts<0)=false:=Gqa Aqa 
 have hc_Peers:=sz_PeerS x.Peers (left-Enc.wt x.Level-Enc.wt x.Scripts) g_Peers Aqa Aqa 
 by_cases n_Peers:left-Enc.wt x.Level-Enc.wt x.Scripts<Enc.wt x.Peers
 ·rw[Kq n_Peers] at hc_Peers
  refine Con.of Tryz.func14 J Tryz.ntmps14 J (fun E => ?_)
  refine Wz [21,101] ?_;refine zx (Qj J J (hc_Level) J) J ?_;refine Wz [27] ?_;refine zx (Qj J J (hc_Scripts) J) J ?_;refine Wz [27] ?_;refine zx (Qj J J (hc_Peers) J) J ?_;refine Wz [119,26] ?_
  exact Xl J J (X1 [] Aqc J J (Xq (by rw[Kq Aqa])))
 rw[Kr Aqa] at hc_Peers
 have hb_Peers:decide (left-Enc.wt x.Level-Enc.wt x.Scripts-Enc.wt x.Peers<0)=false:=Gqa Aqa 
 have hc_Wires:=sz_WireSS x.Wires (left-Enc.wt x.Level-Enc.wt x.Scripts-Enc.wt x.Peers) g_Wires Aqa Aqa 
 by_cases n_Wires:left-Enc.wt x.Level-Enc.wt x.Scripts-Enc.wt x.Peers<Enc.wt x.Wires
 ·rw[Kq n_Wires] at hc_Wires
  refine Con.of Tryz.func14 J Tryz.ntmps14 J (fun E => ?_)
  refine Wz [21,101] ?_;refine zx (Qj J J (hc_Level) J) J ?_;refine Wz [27] ?_;refine zx (Qj J J (hc_Scripts) J) J ?_;refine Wz [27] ?_;refine zx (Qj J J (hc_Peers) J) J ?_;refine Wz [27] ?_;refine zx (Qj J J (hc_Wires) J) J ?_;refine Wz [119,26] ?_
  exact Xl J J (X1 [] Aqc J J (Xq (by rw[Kq Aqa])))
 rw[Kr Aqa] at hc_Wires
 have hb_Wires:decide (left-Enc.wt x.Level-Enc.wt x.Scripts-Enc.wt x.Peers-Enc.wt x.Wires<0)=false:=Gqa Aqa 
 have hc_Paces:=sz_PaceSS x.Paces (left-Enc.wt x.Level-Enc.wt x.Scripts-Enc.wt x.Peers-Enc.wt x.Wires) g_Paces Aqa Aqa 
 by_cases n_Paces:left-Enc.wt x.Level-Enc.wt x.Scripts-Enc.wt x.Peers-Enc.wt x.Wires<Enc.wt x.Paces
 ·rw[Kq n_Paces] at hc_Paces
  refine Con.of Tryz.func14 J Tryz.ntmps14 J (fun E => ?_)
  refine Wz [21,101] ?_;refine zx (Qj J J (hc_Level) J) J ?_;refine Wz [27] ?_;refine zx (Qj J J (hc_Scripts) J) J ?_;refine Wz [27] ?_;refine zx (Qj J J (hc_Peers) J) J ?_;refine Wz [27] ?_;refine zx (Qj J J (hc_Wires) J) J ?_;refine Wz [27] ?_;refine zx (Qj J J (hc_Paces) J) J ?_;refine Wz [119,26] ?_
  exact Xl J J (X1 [] Aqc J J (Xq (by rw[Kq Aqa])))
 rw[Kr Aqa] at hc_Paces
 have hb_Paces:decide (left-Enc.wt x.Level-Enc.wt x.Scripts-Enc.wt x.Peers-Enc.wt x.Wires-Enc.wt x.Paces<0)=false:=Gqa Aqa 
 have hc_Acks:=sz_IntSS x.Acks (left-Enc.wt x.Level-Enc.wt x.Scripts-Enc.wt x.Peers-Enc.wt x.Wires-Enc.wt x.Paces) g_Acks Aqa Aqa 
 by_cases n_Acks:left-Enc.wt x.Level-Enc.wt x.Scripts-Enc.wt x.Peers-Enc.wt x.Wires-Enc.wt x.Paces<Enc.wt x.Acks
 ·rw[Kq n_Acks] at hc_Acks
  refine Con.of Tryz.func14 J Tryz.ntmps14 J (fun E => ?_)
  refine Wz [21,101] ?_;refine zx (Qj J J (hc_Level) J) J ?_;refine Wz [27] ?_;refine zx (Qj J J (hc_Scripts) J) J ?_;refine Wz [27] ?_;refine zx (Qj J J (hc_Peers) J) J ?_;refine Wz [27] ?_;refine zx (Qj J J (hc_Wires) J) J ?_;refine Wz [27] ?_;refine zx (Qj J J (hc_Paces) J) J ?_;refine Wz [27] ?_;refine zx (Qj J J (hc_Acks) J) J ?_;refine Wz [119,26] ?_
  exact Xl J J (X1 [] Aqc J J (Xq (by rw[Kq Aqa])))
 rw[Kr Aqa] at hc_Acks
 have hb_Acks:decide (left-Enc.wt x.Level-Enc.wt x.Scripts-Enc.wt x.Peers-Enc.wt x.Wires-Enc.wt x.Paces-Enc.wt x.Acks<0)=false:=Gqa Aqa 
 have hc_Watchers:=sz_SpectatorS x.Watchers (left-Enc.wt x.Level-Enc.wt x.Scripts-Enc.wt x.Peers-Enc.wt x.Wires-Enc.wt x.Paces-Enc.wt x.Acks) g_Watchers Aqa Aqa 
 by_cases n_Watchers:left-Enc.wt x.Level-Enc.wt x.Scripts-Enc.wt x.Peers-Enc.wt x.Wires-Enc.wt x.Paces-Enc.wt x.Acks<Enc.wt x.Watchers
 ·rw[Kq n_Watchers] at hc_Watchers
  refine Con.of Tryz.func14 J Tryz.ntmps14 J (fun E => ?_)
  refine Wz [21,101] ?_;refine zx (Qj J J (hc_Level) J) J ?_;refine Wz [27] ?_;refine zx (Qj J J (hc_Scripts) J) J ?_;refine Wz [27] ?_;refine zx (Qj J J (hc_Peers) J) J ?_;refine Wz [27] ?_;refine zx (Qj J J (hc_Wires) J) J ?_;refine Wz [27] ?_;refine zx (Qj J J (hc_Paces) J) J ?_;refine Wz [27] ?_;refine zx (Qj J J (hc_Acks) J) J ?_;refine Wz [27] ?_;refine zx (Qj J J (hc_Watchers) J) J ?_;refine Wz [119,26] ?_
  exact Xl J J (X1 [] Aqc J J (Xq (by rw[Kq Aqa])))
 rw[Kr Aqa] at hc_Watchers
 have hb_Watchers:decide (left-Enc.wt x.Level-Enc.wt x.Scripts-Enc.wt x.Peers-Enc.wt x.Wires-Enc.wt x.Paces-Enc.wt x.Acks-Enc.wt x.Watchers<0)=false:=Gqa Aqa 
 have hc_Lines:=sz_WireS x.Lines (left-Enc.wt x.Level-Enc.wt x.Scripts-Enc.wt x.Peers-Enc.wt x.Wires-Enc.wt x.Paces-Enc.wt x.Acks-Enc.wt x.Watchers) g_Lines Aqa Aqa 
 by_cases n_Lines:left-Enc.wt x.Level-Enc.wt x.Scripts-Enc.wt x.Peers-Enc.wt x.Wires-Enc.wt x.Paces-Enc.wt x.Acks-Enc.wt x.Watchers<Enc.wt x.Lines
 ·rw[Kq n_Lines] at hc_Lines
  refine Con.of Tryz.func14 J Tryz.ntmps14 J (fun E => ?_)
  refine Wz [21,101] ?_;refine zx (Qj J J (hc_Level) J) J ?_;refine Wz [27] ?_;refine zx (Qj J J (hc_Scripts) J) J ?_;refine Wz [27] ?_;refine zx (Qj J J (hc_Peers) J) J ?_;refine Wz [27] ?_;refine zx (Qj J J (hc_Wires) J) J ?_;refine Wz [27] ?_;refine zx (Qj J J (hc_Paces) J) J ?_;refine Wz [27] ?_;refine zx (Qj J J (hc_Acks) J) J ?_;refine Wz [27] ?_;refine zx (Qj J J (hc_Watchers) J) J ?_;refine Wz [27] ?_;refine zx (Qj J J (hc_Lines) J) J ?_;refine Wz [119,26] ?_
  exact Xl J J (X1 [] Aqc J J (Xq (by rw[Kq Aqa])))
 rw[Kr Aqa] at hc_Lines
 have hb_Lines:decide (left-Enc.wt x.Level-Enc.wt x.Scripts-Enc.wt x.Peers-Enc.wt x.Wires-Enc.wt x.Paces-Enc.wt x.Acks-Enc.wt x.Watchers-Enc.wt x.Lines<0)=false:=Gqa Aqa 
 have hc_Alarms:=sz_AlarmS x.Alarms (left-Enc.wt x.Level-Enc.wt x.Scripts-Enc.wt x.Peers-Enc.wt x.Wires-Enc.wt x.Paces-Enc.wt x.Acks-Enc.wt x.Watchers-Enc.wt x.Lines) g_Alarms Aqa Aqa 
 by_cases n_Alarms:left-Enc.wt x.Level-Enc.wt x.Scripts-Enc.wt x.Peers-Enc.wt x.Wires-Enc.wt x.Paces-Enc.wt x.Acks-Enc.wt x.Watchers-Enc.wt x.Lines<Enc.wt x.Alarms
 ·rw[Kq n_Alarms] at hc_Alarms
  refine Con.of Tryz.func14 J Tryz.ntmps14 J (fun E => ?_)
  refine Wz [21,101] ?_;refine zx (Qj J J (hc_Level) J) J ?_;refine Wz [27] ?_;refine zx (Qj J J (hc_Scripts) J) J ?_;refine Wz [27] ?_;refine zx (Qj J J (hc_Peers) J) J ?_;refine Wz [27] ?_;refine zx (Qj J J (hc_Wires) J) J ?_;refine Wz [27] ?_;refine zx (Qj J J (hc_Paces) J) J ?_;refine Wz [27] ?_;refine zx (Qj J J (hc_Acks) J) J ?_;refine Wz [27] ?_;refine zx (Qj J J (hc_Watchers) J) J ?_;refine Wz [27] ?_;refine zx (Qj J J (hc_Lines) J) J ?_;refine Wz [27] ?_;refine zx (Qj J J (hc_Alarms) J) J ?_;refine Wz [119,26] ?_
  exact Xl J J (X1 [] Aqc J J (Xq (by rw[Kq Aqa])))
 rw[Kr Aqa] at hc_Alarms
 have hb_Alarms:decide (left-Enc.wt x.Level-Enc.wt x.Scripts-Enc.wt x.Peers-Enc.wt x.Wires-Enc.wt x.Paces-Enc.wt x.Acks-Enc.wt x.Watchers-Enc.wt x.Lines-Enc.wt x.Alarms<0)=false:=Gqa Aqa 
 refine Con.of Tryz.func14 J Tryz.ntmps14 J (fun E => ?_)
 refine Wz [21,101] ?_;refine zx (Qj J J (hc_Level) J) J ?_;refine Wz [27] ?_;refine zx (Qj J J (hc_Scripts) J) J ?_;refine Wz [27] ?_;refine zx (Qj J J (hc_Peers) J) J ?_;refine Wz [27] ?_;refine zx (Qj J J (hc_Wires) J) J ?_;refine Wz [27] ?_;refine zx (Qj J J (hc_Paces) J) J ?_;refine Wz [27] ?_;refine zx (Qj J J (hc_Acks) J) J ?_;refine Wz [27] ?_;refine zx (Qj J J (hc_Watchers) J) J ?_;refine Wz [27] ?_;refine zx (Qj J J (hc_Lines) J) J ?_;refine Wz [27] ?_;refine zx (Qj J J (hc_Alarms) J) J ?_;refine Wz [83,164] ?_
 exact Xl J J (X1 [] Aqc J J (Xq (by rw[Kr Aqa]; omega)))
theorem eq_Match (x y:TMatch) (hg:Enc.gd x):Con Tryz.prog 18 [] [ag x,ag y] [] (B (decide (x=y))):=by
 obtain⟨g_Level,g_Seed,g_Delay,g_Scripts,g_Peers,g_Wires,g_Paces,g_Acks,g_Clock,g_Watchers,g_Lines,g_Alarms,g_Bad⟩:=hg
 by_cases e_Level:¬x.Level=y.Level
 ·have hc:=eq_Level x.Level y.Level g_Level
  rw[Gqa e_Level] at hc
  refine Con.of Tryz.func18 J Tryz.ntmps18 J (fun E => ?_)
  refine Wz [96,68] ?_;refine zx (Qj J J (hc) J) J ?_;refine Wz [5,26] ?_
  exact Xl J J (X1 [] Aqc J J (Xi (Gqa fun e=>e_Level (by rw[e])).symm))
 have e_Level:=Classical.not_not.1 e_Level
 have hc_Level:=eq_Level x.Level y.Level g_Level
 rw[Gqb e_Level] at hc_Level
 by_cases e_Seed:¬x.Seed=y.Seed
 ·have hk:decide (x.Seed≠y.Seed)=true:=by simp[e_Seed]
  refine Con.of Tryz.func18 J Tryz.ntmps18 J (fun E => ?_)
  refine Wz [96,68] ?_;refine zx (Qj J J (hc_Level) J) J ?_;refine Wz [16,41] ?_
  exact Xl J J (X1 [] Aqc J J (Xi (Gqa fun e=>e_Seed (by rw[e])).symm))
 have e_Seed:=Classical.not_not.1 e_Seed
 have k_Seed:decide (x.Seed≠y.Seed)=false:=by simp[e_Seed]
 by_cases e_Delay:¬x.Delay=y.Delay
 ·have hk:decide (x.Delay≠y.Delay)=true:=by simp[e_Delay]
  refine Con.of Tryz.func18 J Tryz.ntmps18 J (fun E => ?_)
  refine Wz [96,68] ?_;refine zx (Qj J J (hc_Level) J) J ?_;refine Wz [16,108,41] ?_
  exact Xl J J (X1 [] Aqc J J (Xi (Gqa fun e=>e_Delay (by rw[e])).symm))
 have e_Delay:=Classical.not_not.1 e_Delay
 have k_Delay:decide (x.Delay≠y.Delay)=false:=by simp[e_Delay]
 by_cases e_Scripts:¬x.Scripts=y.Scripts
 ·have hc:=eq_IntSS x.Scripts y.Scripts g_Scripts
  rw[Gqa e_Scripts] at hc
  refine Con.of Tryz.func18 J Tryz.ntmps18 J (fun E => ?_)
  refine Wz [96,68] ?_;refine zx (Qj J J (hc_Level) J) J ?_;refine Wz [16,115] ?_;refine zx (Qj J J (hc) J) J ?_;refine Wz [5,26] ?_
  exact Xl J J (X1 [] Aqc J J (Xi (Gqa fun e=>e_Scripts (by rw[e])).symm))
 have e_Scripts:=Classical.not_not.1 e_Scripts
 have hc_Scripts:=eq_IntSS x.Scripts y.Scripts g_Scripts
 rw[Gqb e_Scripts] at hc_Scripts
 by_cases e_Peers:¬x.Peers=y.Peers
 ·have hc:=eq_PeerS x.Peers y.Peers g_Peers
  rw[Gqa e_Peers] at hc
  refine Con.of Tryz.func18 J Tryz.ntmps18 J (fun E => ?_)
  refine Wz [96,68] ?_;refine zx (Qj J J (hc_Level) J) J ?_;refine Wz [16,115] ?_;refine zx (Qj J J (hc_Scripts) J) J ?_;refine Wz [16] ?_;refine zx (Qj J J (hc) J) J ?_;refine Wz [5,26] ?_
  exact Xl J J (X1 [] Aqc J J (Xi (Gqa fun e=>e_Peers (by rw[e])).symm))
 have e_Peers:=Classical.not_not.1 e_Peers
 have hc_Peers:=eq_PeerS x.Peers y.Peers g_Peers
 rw[Gqb e_Peers] at hc_Peers
 by_cases e_Wires:¬x.Wires=y.Wires
 ·have hc:=eq_WireSS x.Wires y.Wires g_Wires
  rw[Gqa e_Wires] at hc
  refine Con.of Tryz.func18 J Tryz.ntmps18 J (fun E => ?_)
  refine Wz [96,68] ?_;refine zx (Qj J J (hc_Level) J) J ?_;refine Wz [16,115] ?_;refine zx (Qj J J (hc_Scripts) J) J ?_;refine Wz [16] ?_;refine zx (Qj J J (hc_Peers) J) J ?_;refine Wz [16] ?_;refine zx (Qj J J (hc) J) J ?_;refine Wz [5,26] ?_
  exact Xl J J (X1 [] Aqc J J (Xi (Gqa fun e=>e_Wires (by rw[e])).symm))
 have e_Wires:=Classical.not_not.1 e_Wires
 have hc_Wires:=eq_WireSS x.Wires y.Wires g_Wires
 rw[Gqb e_Wires] at hc_Wires
 by_cases e_Paces:¬x.Paces=y.Paces
 ·have hc:=eq_PaceSS x.Paces y.Paces g_Paces
  rw[Gqa e_Paces] at hc
  refine Con.of Tryz.func18 J Tryz.ntmps18 J (fun E => ?_)
  refine Wz [96,68] ?_;refine zx (Qj J J (hc_Level) J) J ?_;refine Wz [16,115] ?_;refine zx (Qj J J (hc_Scripts) J) J ?_;refine Wz [16] ?_;refine zx (Qj J J (hc_Peers) J) J ?_;refine Wz [16] ?_;refine zx (Qj J J (hc_Wires) J) J ?_;refine Wz [16] ?_;refine zx (Qj J J (hc) J) J ?_;refine Wz [5,26] ?_
  exact Xl J J (X1 [] Aqc J J (Xi (Gqa fun e=>e_Paces (by rw[e])).symm))
 have e_Paces:=Classical.not_not.1 e_Paces
 have hc_Paces:=eq_PaceSS x.Paces y.Paces g_Paces
 rw[Gqb e_Paces] at hc_Paces
 by_cases e_Acks:¬x.Acks=y.Acks
 ·have hc:=eq_IntSS x.Acks y.Acks g_Acks
  rw[Gqa e_Acks] at hc
  refine Con.of Tryz.func18 J Tryz.ntmps18 J (fun E => ?_)
  refine Wz [96,68] ?_;refine zx (Qj J J (hc_Level) J) J ?_;refine Wz [16,115] ?_;refine zx (Qj J J (hc_Scripts) J) J ?_;refine Wz [16] ?_;refine zx (Qj J J (hc_Peers) J) J ?_;refine Wz [16] ?_;refine zx (Qj J J (hc_Wires) J) J ?_;refine Wz [16] ?_;refine zx (Qj J J (hc_Paces) J) J ?_;refine Wz [16] ?_;refine zx (Qj J J (hc) J) J ?_;refine Wz [5,26] ?_
  exact Xl J J (X1 [] Aqc J J (Xi (Gqa fun e=>e_Acks (by rw[e])).symm))
 have e_Acks:=Classical.not_not.1 e_Acks
 have hc_Acks:=eq_IntSS x.Acks y.Acks g_Acks
 rw[Gqb e_Acks] at hc_Acks
 by_cases e_Clock:¬x.Clock=y.Clock
 ·have hk:decide (x.Clock≠y.Clock)=true:=by simp[e_Clock]
  refine Con.of Tryz.func18 J Tryz.ntmps18 J (fun E => ?_)
  refine Wz [96,68] ?_;refine zx (Qj J J (hc_Level) J) J ?_;refine Wz [16,115] ?_;refine zx (Qj J J (hc_Scripts) J) J ?_;refine Wz [16] ?_;refine zx (Qj J J (hc_Peers) J) J ?_;refine Wz [16] ?_;refine zx (Qj J J (hc_Wires) J) J ?_;refine Wz [16] ?_;refine zx (Qj J J (hc_Paces) J) J ?_;refine Wz [16] ?_;refine zx (Qj J J (hc_Acks) J) J ?_;refine Wz [16,41] ?_
  exact Xl J J (X1 [] Aqc J J (Xi (Gqa fun e=>e_Clock (by rw[e])).symm))
 have e_Clock:=Classical.not_not.1 e_Clock
 have k_Clock:decide (x.Clock≠y.Clock)=false:=by simp[e_Clock]
 by_cases e_Watchers:¬x.Watchers=y.Watchers
 ·have hc:=eq_SpectatorS x.Watchers y.Watchers g_Watchers
  rw[Gqa e_Watchers] at hc
  refine Con.of Tryz.func18 J Tryz.ntmps18 J (fun E => ?_)
  refine Wz [96,68] ?_;refine zx (Qj J J (hc_Level) J) J ?_;refine Wz [16,115] ?_;refine zx (Qj J J (hc_Scripts) J) J ?_;refine Wz [16] ?_;refine zx (Qj J J (hc_Peers) J) J ?_;refine Wz [16] ?_;refine zx (Qj J J (hc_Wires) J) J ?_;refine Wz [16] ?_;refine zx (Qj J J (hc_Paces) J) J ?_;refine Wz [16] ?_;refine zx (Qj J J (hc_Acks) J) J ?_;refine Wz [16,108] ?_;refine zx (Qj J J (hc) J) J ?_;refine Wz [5,26] ?_
  exact Xl J J (X1 [] Aqc J J (Xi (Gqa fun e=>e_Watchers (by rw[e])).symm))
 have e_Watchers:=Classical.not_not.1 e_Watchers
 have hc_Watchers:=eq_SpectatorS x.Watchers y.Watchers g_Watchers
 rw[Gqb e_Watchers] at hc_Watchers
 by_cases e_Lines:¬x.Lines=y.Lines
 ·have hc:=eq_WireS x.Lines y.Lines g_Lines
  rw[Gqa e_Lines] at hc
  refine Con.of Tryz.func18 J Tryz.ntmps18 J (fun E => ?_)
  refine Wz [96,68] ?_;refine zx (Qj J J (hc_Level) J) J ?_;refine Wz [16,115] ?_;refine zx (Qj J J (hc_Scripts) J) J ?_;refine Wz [16] ?_;refine zx (Qj J J (hc_Peers) J) J ?_;refine Wz [16] ?_;refine zx (Qj J J (hc_Wires) J) J ?_;refine Wz [16] ?_;refine zx (Qj J J (hc_Paces) J) J ?_;refine Wz [16] ?_;refine zx (Qj J J (hc_Acks) J) J ?_;refine Wz [16,108] ?_;refine zx (Qj J J (hc_Watchers) J) J ?_;refine Wz [16] ?_;refine zx (Qj J J (hc) J) J ?_;refine Wz [5,26] ?_
  exact Xl J J (X1 [] Aqc J J (Xi (Gqa fun e=>e_Lines (by rw[e])).symm))
 have e_Lines:=Classical.not_not.1 e_Lines
 have hc_Lines:=eq_WireS x.Lines y.Lines g_Lines
 rw[Gqb e_Lines] at hc_Lines
 by_cases e_Alarms:¬x.Alarms=y.Alarms
 ·have hc:=eq_AlarmS x.Alarms y.Alarms g_Alarms
  rw[Gqa e_Alarms] at hc
  refine Con.of Tryz.func18 J Tryz.ntmps18 J (fun E => ?_)
  refine Wz [96,68] ?_;refine zx (Qj J J (hc_Level) J) J ?_;refine Wz [16,115] ?_;refine zx (Qj J J (hc_Scripts) J) J ?_;refine Wz [16] ?_;refine zx (Qj J J (hc_Peers) J) J ?_;refine Wz [16] ?_;refine zx (Qj J J (hc_Wires) J) J ?_;refine Wz [16] ?_;refine zx (Qj J J (hc_Paces) J) J ?_;refine Wz [16] ?_;refine zx (Qj J J (hc_Acks) J) J ?_;refine Wz [16,108] ?_;refine zx (Qj J J (hc_Watchers) J) J ?_;refine Wz [16] ?_;refine zx (Qj J J (hc_Lines) J) J ?_;refine Wz [16] ?_;refine zx (Qj J J (hc) J) J ?_;refine Wz [5,26] ?_
  exact Xl J J (X1 [] Aqc J J (Xi (Gqa fun e=>e_Alarms (by rw[e])).symm))
 have e_Alarms:=Classical.not_not.1 e_Alarms
 have hc_Alarms:=eq_AlarmS x.Alarms y.Alarms g_Alarms
 rw[Gqb e_Alarms] at hc_Alarms
 by_cases e_Bad:¬x.Bad=y.Bad
 ·have hk:decide (x.Bad≠y.Bad)=true:=by simp[e_Bad]
  refine Con.of Tryz.func18 J Tryz.ntmps18 J (fun E => ?_)
  refine Wz [96,68] ?_;refine zx (Qj J J (hc_Level) J) J ?_;refine Wz [16,115] ?_;refine zx (Qj J J (hc_Scripts) J) J ?_;refine Wz [16] ?_;refine zx (Qj J J (hc_Peers) J) J ?_;refine Wz [16] ?_;refine zx (Qj J J (hc_Wires) J) J ?_;refine Wz [16] ?_;refine zx (Qj J J (hc_Paces) J) J ?_;refine Wz [16] ?_;refine zx (Qj J J (hc_Acks) J) J ?_;refine Wz [16,108] ?_;refine zx (Qj J J (hc_Watchers) J) J ?_;refine Wz [16] ?_;refine zx (Qj J J (hc_Lines) J) J ?_;refine Wz [16] ?_;refine zx (Qj J J (hc_Alarms) J) J ?_;refine Wz [16,41] ?_
  exact Xl J J (X1 [] Aqc J J (Xi (Gqa fun e=>e_Bad (by rw[e])).symm))
 have e_Bad:=Classical.not_not.1 e_Bad
 have k_Bad:decide (x.Bad≠y.Bad)=false:=by simp[e_Bad]
 refine Con.of Tryz.func18 J Tryz.ntmps18 J (fun E => ?_)
 refine Wz [96,68] ?_;refine zx (Qj J J (hc_Level) J) J ?_;refine Wz [16,115] ?_;refine zx (Qj J J (hc_Scripts) J) J ?_;refine Wz [16] ?_;refine zx (Qj J J (hc_Peers) J) J ?_;refine Wz [16] ?_;refine zx (Qj J J (hc_Wires) J) J ?_;refine Wz [16] ?_;refine zx (Qj J J (hc_Paces) J) J ?_;refine Wz [16] ?_;refine zx (Qj J J (hc_Acks) J) J ?_;refine Wz [16,108] ?_;refine zx (Qj J J (hc_Watchers) J) J ?_;refine Wz [16] ?_;refine zx (Qj J J (hc_Lines) J) J ?_;refine Wz [16] ?_;refine zx (Qj J J (hc_Alarms) J) J ?_;refine Wz [16,118,33,67] ?_
 exact Xl J J (X1 [] Aqc J J (Xi (Gqb (TMatch.same e_Level e_Seed e_Delay e_Scripts e_Peers e_Wires e_Paces e_Acks e_Clock e_Watchers e_Lines e_Alarms e_Bad)).symm))
end
section
open Go.RowKit

theorem wts_set {α:Type} [Enc α] {y:α}:∀ (xs:List α) (i:Nat),wts (xs.set i y)≤wts xs+Enc.wt y
 | [],_=>by simp[wts]
 |x::xs,0=>by simp only[List.set_cons_zero,wts]; omega
 |x::xs,i+1=>by have:=wts_set (y:=y) xs i; simp only[List.set_cons_succ,wts]; omega
theorem wt_set {α:Type} [Enc α] {y:α} (xs:List α) (i:Nat):Enc.wt (xs.set i y)≤Enc.wt xs+Enc.wt y:=by
 show (xs.set i y).length+wts (xs.set i y)≤(xs.length+wts xs)+Enc.wt y
 rw[Gqx]
 have:=wts_set (y:=y) xs i
 omega
theorem gd_set {α:Type} [Enc α] {y:α} {xs:List α} (h:Enc.gd xs) (hy:Enc.gd y) (i:Nat):Enc.gd (xs.set i y):=⟨by rw[Gqx]; exact h.1,fun x hx=>by
 rcases Gxi hx with h' | h'
 ·exact h.2 _ h'
 ·rw[h']; exact hy⟩
theorem wts_snoc {α:Type} [Enc α] (xs:List α) (s:α):wts (xs ++ [s])=wts xs+Enc.wt s:=by
 induction xs with
 |nil=>simp[wts]
 |cons y ys ih=>simp only[List.cons_append,wts,ih]; omega
structure FlyIn (w v:TWire) (n:Nat):Prop where
 g:Enc.gd v
 w:Enc.wt v≤Enc.wt w+n
 f:v.Flights.length≤200
 l:0≤v.Lost∧v.Lost≤1000000
 s:0≤v.Seed∧v.Seed≤65535
theorem fly_in {w v:TWire} {d:ByteArray} {n:Nat} (h:FlyIn w v n) (hd:d.size≤1048576) (no:0≤v.Now∧v.Now≤1000000) (de:0≤v.Delay∧v.Delay≤12) (ji:0≤v.Jitter∧v.Jitter≤12):FlyIn w (flyW v d) (n+d.size+1):=by
 obtain⟨⟨g1,g2,g3,g4,g5,g6,g7,g8,g9,g10⟩,hw,hf,hl,hs⟩:=h
 have hq:=fly1_seed (w:=v) (s:=v.Seed) (d:=d)
 have hz:=fly1_size v v.Seed d
 have hb:=Yd (s:=v.Seed) (n:=v.Jitter+1) Aqa 
 have e1:Enc.wt v=v.Flights.length+wts v.Flights:=rfl
 rw[flyW]
 split
 ·refine⟨⟨⟨by show -9223372036854775808≤(fly1 v d v.Seed).1; omega,by show (fly1 v d v.Seed).1≤9223372036854775807; omega⟩,g2,g3,g4,g5,g6,g7,g8,g9,⟨by show _≤min (v.Lost+1) 1000000; omega,by show min (v.Lost+1) 1000000≤_; omega⟩⟩,?_,hf,by show 0≤min (v.Lost+1) 1000000∧min (v.Lost+1) 1000000≤1000000; omega,hq⟩
  show v.Flights.length+wts v.Flights≤_
  omega
 ·rename_i hne
  refine⟨⟨⟨by show -9223372036854775808≤(fly1 v d v.Seed).1; omega,by show (fly1 v d v.Seed).1≤9223372036854775807; omega⟩,g2,g3,g4,g5,g6,g7,gd_snc g8 ⟨⟨?_,?_⟩,?_⟩ Aqa,g9,g10⟩,?_,?_,hl,hq⟩
  ·show _≤v.Now+v.Delay+belowR v.Seed (v.Jitter+1); omega
  ·show v.Now+v.Delay+belowR v.Seed (v.Jitter+1)≤_; omega
  ·show (fly1 v d v.Seed).2.size≤_; omega
  ·show (v.Flights ++ [_]).length+wts (v.Flights ++ [_])≤_
   rw[wts_snoc,Gqp]
   have e2:Enc.wt (⟨v.Now+v.Delay+belowR v.Seed (v.Jitter+1),(fly1 v d v.Seed).2⟩:TFlight)=(fly1 v d v.Seed).2.size:=rfl
   rw[e2]
   simp
   omega
  ·show (v.Flights ++ [_]).length≤200
   simp; omega
theorem flys_in {w v:TWire} {d:ByteArray} (h:FlyIn w v 0) (hd:d.size≤1048576) (no:0≤v.Now∧v.Now≤1000000) (de:0≤v.Delay∧v.Delay≤12) (ji:0≤v.Jitter∧v.Jitter≤12):∀ k,FlyIn w (flyN v d k) (k*(d.size+1))
 |0=>by rw[Nat.zero_mul]; exact h
 |k+1=>by
  have hs:=flyN_same v d k
  have:=fly_in (flys_in h hd no de ji k) hd (by rw[hs.no]; exact no) (by rw[hs.de]; exact de) (by rw[hs.ji]; exact ji)
  rw[show (k+1)*(d.size+1)=k*(d.size+1)+d.size+1 by rw[Nat.succ_mul]; omega]
  exact this
theorem sendW_in {w:TWire} {d:ByteArray} (g:Enc.gd w):Enc.gd (sendW w d)∧Enc.wt (sendW w d)≤Enc.wt w+8194:=by
 rw[sendW]
 split
 ·rename_i h
  obtain⟨hok,hd1,hd2⟩:=h
  obtain⟨⟨q1,q2,q3⟩,⟨q4,q5,q6⟩,⟨q7,q8,q9⟩,q10,q11⟩:WireP w:=Gqc hok
  rw[Yx] at q1 q2 q3 q7 q8 q9
  obtain⟨g1,g2,g3,g4,g5,g6,g7,g8,g9,g10⟩:=id g
  have r1:=Y9 w.Seed
  have r2:=Y9 (nextR w.Seed)
  rw[sendV]
  split
  ·exact⟨⟨⟨by show _≤nextR w.Seed; omega,by show nextR w.Seed≤_; omega⟩,g2,g3,g4,g5,g6,g7,g8,⟨by show _≤min (w.Sent+1) 1000000; omega,by show min (w.Sent+1) 1000000≤_; omega⟩,⟨by show _≤min (w.Lost+1) 1000000; omega,by show min (w.Lost+1) 1000000≤_; omega⟩⟩,Nat.le_add_right _ _⟩
  ·have h0:FlyIn w { sent1 w with Seed:=nextR (nextR w.Seed) } 0:=⟨⟨⟨by show _≤nextR (nextR w.Seed); omega,by show nextR (nextR w.Seed)≤_; omega⟩,g2,g3,g4,g5,g6,g7,g8,⟨by show _≤min (w.Sent+1) 1000000; omega,by show min (w.Sent+1) 1000000≤_; omega⟩,g10⟩,Gqk _,q10,q9,r2⟩
   have h1:=flys_in (d:=d) h0 Aqa q7 q2 q3 (if belowR (nextR w.Seed) 100<w.Copies then 2 else 1)
   refine⟨h1.g,Nat.le_trans h1.w (Nat.add_le_add_left ?_ _)⟩
   split <;> omega
 ·exact⟨g,Nat.le_add_right _ _⟩
theorem tellV_in {x:TMatch} {i j:Int} (g:Enc.gd x) (hw:Enc.wt x≤1048576):Enc.gd (tellV x i j)∧Enc.wt (tellV x i j)≤8388608:=by
 rw[tellV]
 split
 ·rename_i hb
  rw[Gqi] at hb
  obtain⟨hm,hb⟩:=hb
  obtain⟨_,y1,y2,y3,y4⟩:=twB_iff.1 hb
  obtain⟨p,u,v,pc,q,ac,a,hA⟩:=pair_at hm (i:=i.toNat) (j:=j.toNat) Aqa Aqa 
  cases hp:packetOk (pkOf p a) with
  |false=>rw[tellS_no hA hp]; exact⟨g,Aqa⟩
  |true =>
   rw[tellS_yes hA hp]
   have hmi:MatchIn x:=⟨g,hw⟩
   have gu:Enc.gd u:=g.2.2.2.2.2.1.2 u (Gqm hA.hu)
   have gv:Enc.gd v:=gu.2 v (Gqm hA.hv)
   have wu:=(Yy hmi.le.W).2 u (Gqm hA.hu)
   have wv:=(Yy wu).2 v (Gqm hA.hv)
   obtain⟨gs,ws⟩:=sendW_in (d:=encP (stampP (pkOf p a) q x.Clock)) gv
   refine⟨⟨g.1,g.2.1,g.2.2.1,g.2.2.2.1,g.2.2.2.2.1,gd_set g.2.2.2.2.2.1 (gd_set gu gs _) _,g.2.2.2.2.2.2⟩,?_⟩
   have w1:=wt_set (y:=sendW v (encP (stampP (pkOf p a) q x.Clock))) u j.toNat
   have w2:=wt_set (y:=u.set j.toNat (sendW v (encP (stampP (pkOf p a) q x.Clock)))) x.Wires i.toNat
   have hx:Enc.wt x=Enc.wt x.Level+Enc.wt x.Scripts+Enc.wt x.Peers+Enc.wt x.Wires+Enc.wt x.Paces+Enc.wt x.Acks+Enc.wt x.Watchers+Enc.wt x.Lines+Enc.wt x.Alarms:=rfl
   show Enc.wt x.Level+Enc.wt x.Scripts+Enc.wt x.Peers+Enc.wt (x.Wires.set i.toNat (u.set j.toNat (sendW v (encP (stampP (pkOf p a) q x.Clock)))))+Enc.wt x.Paces+Enc.wt x.Acks+Enc.wt x.Watchers+Enc.wt x.Lines+Enc.wt x.Alarms≤_
   omega
 ·exact⟨g,Aqa⟩
theorem law_TellPeer (x:TMatch) (i:Int) (j:Int) (g_x:Enc.gd x) (g_i:Enc.gd i) (g_j:Enc.gd j):Con Tryz.prog 4 [] [ag x,ai i,ai j] [] (B true):=by
 have hz:=sz_Match x (1048576) g_x Aqa Aqa 
 by_cases n_x:(1048576:Int)<Enc.wt x
 ·rw[Kq n_x] at hz
  refine Con.of Tryz.func4 J Tryz.ntmps4 J (fun E => ?_)
  refine Wz [21,12,90,0] ?_;refine zx (Qj J J (hz) J) J ?_;refine Wz [73] ?_;refine zx (Qr (b:=true) J J J J Aqc) J ?_;refine Wz [26] ?_
  exact Xl J J (X1 [] Aqc J J J)
 rw[Kr Aqa] at hz
 have hb:decide ((1048576:Int)-Enc.wt x<0)=false:=Gqa Aqa 
 have ht:=to_Match x Aqa 
 have hq:=eq_Match x x g_x
 rw[Gqb rfl] at hq
 have hmi:MatchIn x:=⟨g_x,Aqa⟩
 have hsp:=S_TellPeer x i j hmi
 have hip:=I_TellPeer x i j hmi
 obtain⟨g_y,w_y⟩:=tellV_in (i:=i) (j:=j) g_x Aqa 
 generalize tellV x i j=y at hsp hip g_y w_y
 have hq1:=eq_Match y y g_y
 rw[Gqb rfl] at hq1
 obtain⟨k1,k2⟩:=nM_le x 1
 obtain⟨k3,k4⟩:=nM_le y 1
 have hm_x:=L_mkMatch x 1 g_x Aqa Aqa 
 have hm_y:=L_mkMatch y 1 g_y Aqa Aqa 
 have hh:=L_hdMatch y 1 g_y Aqa Aqa 
 have hk1:decide (n9M x 1<0)=false:=Gqa Aqa 
 have hk2:decide (n9M y 1<0)=false:=Gqa Aqa 
 refine Con.of Tryz.func4 J Tryz.ntmps4 J (fun E => ?_)
 refine Wz [21,12,90,0] ?_;refine zx (Qj J J (hz) J) J ?_;refine Wz [83,90] ?_;refine M1 (Zs J J (ht) J J J) J J ?_;refine AL.weak (st':=(⟨79,[(1,I i),(2,I j),(3,Aqf 0),(21,.o (.ag (mC x 1)))],.box (Aqi x)::mR x []⟩:St)) (X4 [0,1,2,3,4,5,6,7,8,9] Aqc J ( Aqb) (.c J (.c J (.c J (.c J (.nil)))))) ?_;refine Wz [127] ?_;refine M1 (Zs J J (hsp) J J J) J J ?_;refine AL.weak (st':=(⟨79,[(1,I i),(2,I j),(3,Aqf 0),(24,.o (.ag (mC y 1)))],.box (Aqi x)::mR y []⟩:St)) (X4 [0,10,11,12,13,14,15,16,17,18] Aqc J ( Aqb) (.c J (.c J (.c J (.c J (.nil)))))) ?_;refine Wz [36,136] ?_;refine AL.weak (st':=(⟨79,[(1,I i),(2,I j),(3,Aqf 0),(8,Aqf 10)],.box (Aqi x)::mR y [.box (mC y 1)]⟩:St)) (X4 [0,1,2,3,4,5,6,7,8,9,10] Aqc J ( Aqb) (.c J (.c J (.c J (.c J (.nil)))))) ?_;refine Wz [6,90] ?_;refine M1 (Zs J J (ht) J J J) J J ?_;refine AL.weak (st':=(⟨79,[(1,I i),(2,I j),(3,Aqf 0),(8,Aqf 10),(26,.o (.ag (mC x 11)))],.box (Aqi x)::.row 1 (els y.Level.Rows)::.row 1 (els y.Scripts)::.row 23 (els y.Peers)::.row 1 (els y.Wires)::.row 1 (els y.Paces)::.row 1 (els y.Acks)::.row 6 (els y.Watchers)::.row 10 (els y.Lines)::.row 2 (els y.Alarms)::.box (mC y 1)::mR x []⟩:St)) (X4 [0,1,2,3,4,5,6,7,8,9,10,11,12,13,14,15,16,17,18,19] Aqc J ( Aqb) (.c J (.c J (.c J (.c J (.c J (.nil))))))) ?_;refine Wz [36,136] ?_;refine AL.weak (st':=(⟨79,[(1,I i),(2,I j),(3,Aqf 0),(8,Aqf 10),(9,Aqf 20)],.box (Aqi x)::.row 1 (els y.Level.Rows)::.row 1 (els y.Scripts)::.row 23 (els y.Peers)::.row 1 (els y.Wires)::.row 1 (els y.Paces)::.row 1 (els y.Acks)::.row 6 (els y.Watchers)::.row 10 (els y.Lines)::.row 2 (els y.Alarms)::.box (mC y 1)::mR x [.box (mC x 11)]⟩:St)) (X4 [0,1,2,3,4,5,6,7,8,9,10,11,12,13,14,15,16,17,18,19,20] Aqc J ( Aqb) (.c J (.c J (.c J (.c J (.c J (.nil))))))) ?_;refine Wz [6,90,127] ?_;refine M1 (Zs J J (hip) J J J) J J ?_;refine AL.weak (st':=(⟨79,[(1,I i),(2,I j),(3,Aqf 0),(8,Aqf 10),(9,Aqf 20),(30,.o (.ag (mC y 21)))],.box (Aqi x)::.row 1 (els y.Level.Rows)::.row 1 (els y.Scripts)::.row 23 (els y.Peers)::.row 1 (els y.Wires)::.row 1 (els y.Paces)::.row 1 (els y.Acks)::.row 6 (els y.Watchers)::.row 10 (els y.Lines)::.row 2 (els y.Alarms)::.box (mC y 1)::.row 1 (els x.Level.Rows)::.row 1 (els x.Scripts)::.row 23 (els x.Peers)::.row 1 (els x.Wires)::.row 1 (els x.Paces)::.row 1 (els x.Acks)::.row 6 (els x.Watchers)::.row 10 (els x.Lines)::.row 2 (els x.Alarms)::.box (mC x 11)::mR y []⟩:St)) (X4 [0,1,2,3,4,5,6,7,8,9,10,11,12,13,14,15,16,17,18,19,20,21,22,23,24,25,26,27,28,29] Aqc J ( Aqb) (.c J (.c J (.c J (.c J (.c J (.c J (.nil)))))))) ?_;refine Wz [36,136] ?_;refine AL.weak (st':=(⟨79,[(1,I i),(2,I j),(3,Aqf 0),(8,Aqf 10),(9,Aqf 20),(10,Aqf 30)],.box (Aqi x)::.row 1 (els y.Level.Rows)::.row 1 (els y.Scripts)::.row 23 (els y.Peers)::.row 1 (els y.Wires)::.row 1 (els y.Paces)::.row 1 (els y.Acks)::.row 6 (els y.Watchers)::.row 10 (els y.Lines)::.row 2 (els y.Alarms)::.box (mC y 1)::.row 1 (els x.Level.Rows)::.row 1 (els x.Scripts)::.row 23 (els x.Peers)::.row 1 (els x.Wires)::.row 1 (els x.Paces)::.row 1 (els x.Acks)::.row 6 (els x.Watchers)::.row 10 (els x.Lines)::.row 2 (els x.Alarms)::.box (mC x 11)::mR y [.box (mC y 21)]⟩:St)) (X4 [0,1,2,3,4,5,6,7,8,9,10,11,12,13,14,15,16,17,18,19,20,21,22,23,24,25,26,27,28,29,30] Aqc J ( Aqb) (.c J (.c J (.c J (.c J (.c J (.c J (.nil)))))))) ?_;refine Wz [6,107,37,37] ?_;refine zx (Qj J J (hq1) J) J ?_;refine Wz [64,17,17] ?_
 refine AWP.pre (st':=(⟨79,[(1,I i),(2,I j),(3,Aqf 0),(8,Aqf 10),(9,Aqf 20),(10,Aqf 30)],.box (Aqi x)::.row 1 (els y.Level.Rows)::.row 1 (els y.Scripts)::.row 23 (els y.Peers)::.row 1 (els y.Wires)::.row 1 (els y.Paces)::.row 1 (els y.Acks)::.row 6 (els y.Watchers)::.row 10 (els y.Lines)::.row 2 (els y.Alarms)::.box (mC y 1)::.row 1 (els x.Level.Rows)::.row 1 (els x.Scripts)::.row 23 (els x.Peers)::.row 1 (els x.Wires)::.row 1 (els x.Paces)::.row 1 (els x.Acks)::.row 6 (els x.Watchers)::.row 10 (els x.Lines)::.row 2 (els x.Alarms)::.box (mC x 11)::mR y [.box (mC y 21)]⟩:St)) ?_ (X4 [0,1,2,3,4,5,6,7,8,9,10,11,12,13,14,15,16,17,18,19,20,21,22,23,24,25,26,27,28,29,30] Aqc J ( Aqb) (.c J (.c J (.c J (.c J (.c J (.c J (.nil))))))))
 refine Xg [[],[],[1],[0,1,2],(u9 4)] [[],[],[36],[35,36,37],[35,36,37,38]] [[36,37],[35],[35],[],[]] J ?_;refine Wz [190,190] ?_;refine DR.s (Zs J J (ht) J J J) J J ?_;refine DR.s (Qj J J (hq) J) J J ?_;refine Wz [74,13,6] ?_
 refine AWP.pre (st':=(⟨79,[(1,I i),(2,I j),(3,Aqf 0),(8,Aqf 10),(9,Aqf 20),(10,Aqf 30),(39,B false)],.box (Aqi x)::.row 1 (els y.Level.Rows)::.row 1 (els y.Scripts)::.row 23 (els y.Peers)::.row 1 (els y.Wires)::.row 1 (els y.Paces)::.row 1 (els y.Acks)::.row 6 (els y.Watchers)::.row 10 (els y.Lines)::.row 2 (els y.Alarms)::.box (mC y 1)::.row 1 (els x.Level.Rows)::.row 1 (els x.Scripts)::.row 23 (els x.Peers)::.row 1 (els x.Wires)::.row 1 (els x.Paces)::.row 1 (els x.Acks)::.row 6 (els x.Watchers)::.row 10 (els x.Lines)::.row 2 (els x.Alarms)::.box (mC x 11)::mR y [.box (mC y 21)]⟩:St)) ?_ (X4 [0,1,2,3,4,5,6,7,8,9,10,11,12,13,14,15,16,17,18,19,20,21,22,23,24,25,26,27,28,29,30] Aqc J ( Aqb) (.c J (.c J (.c J (.c J (.c J (.c J (.c J (.nil)))))))))
 refine Wz [106,15,12,90,0] ?_;refine Xd (lo := [_,_,_,_,_,_,_,_,_]) (gs := [(0,.ag (mC x 0))]) (lo' := [_,_,_,_,_,_,_,_,_]) (new := []) [11,12,13,14,15,16,17,18,19] [(0,0,.ref 0),(0,3,.ref 1),(0,4,.ref 2),(0,5,.ref 3),(0,6,.ref 4),(0,7,.ref 5),(0,9,.ref 6),(0,10,.ref 7),(0,11,.ref 8)] (hm_x) J J J J J J J J J J J J J J J J J ?_;refine AL.weak (st':=(⟨79,[(1,I i),(2,I j),(3,Aqf 0),(8,Aqf 10),(10,Aqf 20),(42,I (n9M x 1))],.box (Aqi x)::.row 1 (els y.Level.Rows)::.row 1 (els y.Scripts)::.row 23 (els y.Peers)::.row 1 (els y.Wires)::.row 1 (els y.Paces)::.row 1 (els y.Acks)::.row 6 (els y.Watchers)::.row 10 (els y.Lines)::.row 2 (els y.Alarms)::.box (mC y 1)::mR y [.box (mC y 11)]⟩:St)) (X4 [0,1,2,3,4,5,6,7,8,9,10,21,22,23,24,25,26,27,28,29,30] Aqc J ( Aqb) (.c J (.c J (.c J (.c J (.c J (.c J (.nil)))))))) ?_;refine Wz [119,70,37,1,37,1] ?_;refine zx (Qj J J (hq1) J) J ?_;refine Wz [1,5,22,33,12,90,0] ?_;refine Xd (lo := [_,_,_,_,_,_,_,_,_]) (gs := [(0,.ag (mC y 0))]) (lo' := [_,_,_,_,_,_,_,_,_]) (new := []) [11,12,13,14,15,16,17,18,19] [(0,0,.ref 0),(0,3,.ref 1),(0,4,.ref 2),(0,5,.ref 3),(0,6,.ref 4),(0,7,.ref 5),(0,9,.ref 6),(0,10,.ref 7),(0,11,.ref 8)] (hm_y) J J J J J J J J J J J J J J J J J ?_;refine AL.weak (st':=(⟨79,[(1,I i),(2,I j),(3,Aqf 0),(8,Aqf 10),(10,Aqf 20),(53,I (n9M y 1))],.box (Aqi x)::mR y [.box (mC y 1),.row 1 (mkEs (els y.Level.Rows) 1),.row 1 (mkEs (els y.Scripts) (n1M y 1)),.row 23 (mkEs (els y.Peers) (n2M y 1)),.row 1 (mkEs (els y.Wires) (n3M y 1)),.row 1 (mkEs (els y.Paces) (n4M y 1)),.row 1 (mkEs (els y.Acks) (n5M y 1)),.row 6 (mkEs (els y.Watchers) (n6M y 1)),.row 10 (mkEs (els y.Lines) (n7M y 1)),.row 2 (mkEs (els y.Alarms) (n8M y 1)),.box (mC y 11)]⟩:St)) (X4 [0,1,2,3,4,5,6,7,8,9,10,11,12,13,14,15,16,17,18,19,20] Aqc J ( Aqb) (.c J (.c J (.c J (.c J (.c J (.c J (.nil)))))))) ?_;refine Wz [2,12,90,0] ?_;refine zx (Qj J J (hh) J) J ?_;refine Wz [83,43,298,90] ?_;refine M1 (Zs J J (ht) J J J) J J ?_;refine AL.weak (st':=(⟨79,[(1,I i),(2,I j),(3,Aqf 0),(8,Aqf 10),(10,Aqf 20),(12,I (n9M y 1)),(63,.o (.ag (mC x 21)))],.box (Aqi x)::.row 1 (els y.Level.Rows)::.row 1 (els y.Scripts)::.row 23 (els y.Peers)::.row 1 (els y.Wires)::.row 1 (els y.Paces)::.row 1 (els y.Acks)::.row 6 (els y.Watchers)::.row 10 (els y.Lines)::.row 2 (els y.Alarms)::.box (mC y 1)::.row 1 (mkEs (els y.Level.Rows) 1)::.row 1 (mkEs (els y.Scripts) (n1M y 1))::.row 23 (mkEs (els y.Peers) (n2M y 1))::.row 1 (mkEs (els y.Wires) (n3M y 1))::.row 1 (mkEs (els y.Paces) (n4M y 1))::.row 1 (mkEs (els y.Acks) (n5M y 1))::.row 6 (mkEs (els y.Watchers) (n6M y 1))::.row 10 (mkEs (els y.Lines) (n7M y 1))::.row 2 (mkEs (els y.Alarms) (n8M y 1))::.box (mC y 11)::mR x []⟩:St)) (X4 [0,1,2,3,4,5,6,7,8,9,10,11,12,13,14,15,16,17,18,19,20,21,22,23,24,25,26,27,28,29] Aqc J ( Aqb) (.c J (.c J (.c J (.c J (.c J (.c J (.c J (.nil))))))))) ?_;refine Wz [127] ?_;refine M1 (Zs J J (hip) J J J) J J ?_;refine AL.weak (st':=(⟨79,[(1,I i),(2,I j),(3,Aqf 0),(8,Aqf 10),(10,Aqf 20),(12,I (n9M y 1)),(66,.o (.ag (mC y 21)))],.box (Aqi x)::.row 1 (els y.Level.Rows)::.row 1 (els y.Scripts)::.row 23 (els y.Peers)::.row 1 (els y.Wires)::.row 1 (els y.Paces)::.row 1 (els y.Acks)::.row 6 (els y.Watchers)::.row 10 (els y.Lines)::.row 2 (els y.Alarms)::.box (mC y 1)::.row 1 (mkEs (els y.Level.Rows) 1)::.row 1 (mkEs (els y.Scripts) (n1M y 1))::.row 23 (mkEs (els y.Peers) (n2M y 1))::.row 1 (mkEs (els y.Wires) (n3M y 1))::.row 1 (mkEs (els y.Paces) (n4M y 1))::.row 1 (mkEs (els y.Acks) (n5M y 1))::.row 6 (mkEs (els y.Watchers) (n6M y 1))::.row 10 (mkEs (els y.Lines) (n7M y 1))::.row 2 (mkEs (els y.Alarms) (n8M y 1))::.box (mC y 11)::mR y []⟩:St)) (X4 [0,1,2,3,4,5,6,7,8,9,10,11,12,13,14,15,16,17,18,19,20,30,31,32,33,34,35,36,37,38] Aqc J ( Aqb) (.c J (.c J (.c J (.c J (.c J (.c J (.c J (.nil))))))))) ?_;refine Wz [36,136] ?_;refine AL.weak (st':=(⟨79,[(1,I i),(2,I j),(3,Aqf 0),(8,Aqf 10),(10,Aqf 20),(12,I (n9M y 1)),(14,Aqf 30)],.box (Aqi x)::.row 1 (els y.Level.Rows)::.row 1 (els y.Scripts)::.row 23 (els y.Peers)::.row 1 (els y.Wires)::.row 1 (els y.Paces)::.row 1 (els y.Acks)::.row 6 (els y.Watchers)::.row 10 (els y.Lines)::.row 2 (els y.Alarms)::.box (mC y 1)::.row 1 (mkEs (els y.Level.Rows) 1)::.row 1 (mkEs (els y.Scripts) (n1M y 1))::.row 23 (mkEs (els y.Peers) (n2M y 1))::.row 1 (mkEs (els y.Wires) (n3M y 1))::.row 1 (mkEs (els y.Paces) (n4M y 1))::.row 1 (mkEs (els y.Acks) (n5M y 1))::.row 6 (mkEs (els y.Watchers) (n6M y 1))::.row 10 (mkEs (els y.Lines) (n7M y 1))::.row 2 (mkEs (els y.Alarms) (n8M y 1))::.box (mC y 11)::mR y [.box (mC y 21)]⟩:St)) (X4 [0,1,2,3,4,5,6,7,8,9,10,11,12,13,14,15,16,17,18,19,20,21,22,23,24,25,26,27,28,29,30] Aqc J ( Aqb) (.c J (.c J (.c J (.c J (.c J (.c J (.c J (.nil))))))))) ?_;refine Wz [6,107,37,37] ?_;refine zx (Qj J J (hq1) J) J ?_;refine Wz [64,12,90,0] ?_;refine zx (Qj J J (hh) J) J ?_;refine Wz [83,43,298,67] ?_
 exact Xl J J (X1 [] Aqc J J J)
end
section
open Go.ChangeShapes Go.WideShapes Go.ChangeAt Go.RowKit

def RL (w:World) (ts:List T) (cs:List Value):Prop:=∀ (j:Nat) (t:T) (u:Value),ts[j]? = some t→cs[j]? = some u→RO w (fun _=>True) t u
theorem RL.nil {w:World} {cs:List Value}:RL w [] cs:=fun _ _ _ h=>by simp at h
theorem RL.app {w:World} {ts us:List T} {cs:List Value} {o n:Nat} (h1:RL w ts ((cs.drop o).take n)) (hn:ts.length=n) (h2:RL w us (cs.drop (o+n))):RL w (ts++us) (cs.drop o):=fun j t u h3 h4=>by
 rcases Gqq j ts.length with hj | hj
 ·rw[Gqw hj] at h3
  exact h1 j t u h3 (by rw[Gxf,if_pos Aqa]; exact h4)
 ·rw[Gqy hj] at h3
  refine h2 (j-ts.length) t u h3 ?_
  rw[Gxh] at h4 ⊢
  rw[←h4]
  congr 1
  omega
theorem Kh {P:Program} {t tt:TypeId} {fs:Array Field} {f:Field} {α:Type} [Enc α] {H:Type} {enc:TypeId×Value→H} {w:World} {spare:Nat→Bool} {held:Bool} {fuel:Nat} {cs:List Value} {x:DataW H×List MemPlace}
  (ht:P.underlying t=some (.struct fs)) (h:DataW.trod enc P w 0 spare held fuel t cs=some x) (i:Nat) (hf:fs[i]? = some f) (hty:f.type=tt) [hα:RdOf P tt α] {o:Nat} (ho:f.offset=o) :
  ∃ y:α,Enc.gd y∧RL w (Enc.e y) ((cs.drop o).take (Enc.k α)):=by
 obtain⟨xs,n,_,_,hl,hlen,hfs⟩:=DataW.trod_struct ht h
 have h1:=hfs i f hf
 have hi:i<fs.size:=by
  rcases Gqq i fs.size with h2 | h2
  ·exact h2
  ·rw[Array.getElem?_eq_none h2] at hf; cases hf
 rw[Gqf Aqa,hty,ho,hα.size] at h1
 obtain⟨y,hg,hr⟩:=hα.of h1
 exact⟨y,hg,hr.2⟩
theorem Ki {P:Program} {t:TypeId} {fs:Array Field} {H:Type} {enc:TypeId×Value→H} {w:World} {spare:Nat→Bool} {held:Bool} {fuel:Nat} {cs:List Value} {x:DataW H×List MemPlace}
  (ht:P.underlying t=some (.struct fs)) (h:DataW.trod enc P w 0 spare held fuel t cs=some x):cs.length=P.cellsOf t:=by
 obtain⟨xs,n,_,_,hl,_⟩:=DataW.trod_struct ht h
 exact hl

instance:RdOf Tryz.prog 3 Int:=rdOf_int Tryz.underlying3 Aqb 
instance:RdOf Tryz.prog 9 ByteArray:=rdOf_string Tryz.underlying9 Aqb 
instance:RdOf Tryz.prog 28 (List Int):=Kg Tryz.underlying28 Aqb 
instance:RdOf Tryz.prog 25 (List ByteArray):=Kg Tryz.underlying25 Aqb 
instance:RdOf Tryz.prog 32 (List (List Int)):=Kg Tryz.underlying32 Aqb 
instance:RdOf Tryz.prog 52 TLevel where
 size:=Aqb
 of {H enc w spare held fuel cs x} h:=by
  obtain⟨y0,g0,r0⟩:=Kh (α:=(List ByteArray)) (tt:=25) Tryz.underlying52 h 0 rfl rfl rfl
  refine⟨⟨y0⟩,g0,?_,?_⟩
  ·rw[Ki Tryz.underlying52 h]; kernel_rfl
  ·exact (RL.app (o:=0) (n:=1) r0 rfl (RL.nil):RL w _ (cs.drop 0))
end
section
open Go.ChangeShapes Go.WideShapes Go.ChangeAt Go.RowKit

instance:RdOf Tryz.prog 325 TBody where
 size:=Aqb
 of {H enc w spare held fuel cs x} h:=by
  obtain⟨y0,g0,r0⟩:=Kh (α:=Int) (tt:=3) Tryz.underlying325 h 0 rfl rfl rfl
  obtain⟨y1,g1,r1⟩:=Kh (α:=Int) (tt:=3) Tryz.underlying325 h 1 rfl rfl rfl
  obtain⟨y2,g2,r2⟩:=Kh (α:=Int) (tt:=3) Tryz.underlying325 h 2 rfl rfl rfl
  obtain⟨y3,g3,r3⟩:=Kh (α:=Int) (tt:=3) Tryz.underlying325 h 3 rfl rfl rfl
  obtain⟨y4,g4,r4⟩:=Kh (α:=Int) (tt:=3) Tryz.underlying325 h 4 rfl rfl rfl
  obtain⟨y5,g5,r5⟩:=Kh (α:=Int) (tt:=3) Tryz.underlying325 h 5 rfl rfl rfl
  obtain⟨y6,g6,r6⟩:=Kh (α:=Int) (tt:=3) Tryz.underlying325 h 6 rfl rfl rfl
  obtain⟨y7,g7,r7⟩:=Kh (α:=Int) (tt:=3) Tryz.underlying325 h 7 rfl rfl rfl
  obtain⟨y8,g8,r8⟩:=Kh (α:=Int) (tt:=3) Tryz.underlying325 h 8 rfl rfl rfl
  refine⟨⟨y0,y1,y2,y3,y4,y5,y6,y7,y8⟩,⟨g0,g1,g2,g3,g4,g5,g6,g7,g8⟩,?_,?_⟩
  ·rw[Ki Tryz.underlying325 h]; kernel_rfl
  ·exact (RL.app (o:=0) (n:=1) r0 rfl (RL.app (o:=1) (n:=1) r1 rfl (RL.app (o:=2) (n:=1) r2 rfl (RL.app (o:=3) (n:=1) r3 rfl (RL.app (o:=4) (n:=1) r4 rfl (RL.app (o:=5) (n:=1) r5 rfl (RL.app (o:=6) (n:=1) r6 rfl (RL.app (o:=7) (n:=1) r7 rfl (RL.app (o:=8) (n:=1) r8 rfl (RL.nil))))))))):RL w _ (cs.drop 0))
instance:RdOf Tryz.prog 162 (List TBody):=Kg Tryz.underlying162 Aqb 
instance:RdOf Tryz.prog 164 TWorld where
 size:=Aqb
 of {H enc w spare held fuel cs x} h:=by
  obtain⟨y0,g0,r0⟩:=Kh (α:=TLevel) (tt:=52) Tryz.underlying164 h 0 rfl rfl rfl
  obtain⟨y1,g1,r1⟩:=Kh (α:=Int) (tt:=3) Tryz.underlying164 h 1 rfl rfl rfl
  obtain⟨y2,g2,r2⟩:=Kh (α:=Int) (tt:=3) Tryz.underlying164 h 2 rfl rfl rfl
  obtain⟨y3,g3,r3⟩:=Kh (α:=(List Int)) (tt:=28) Tryz.underlying164 h 3 rfl rfl rfl
  obtain⟨y4,g4,r4⟩:=Kh (α:=(List TBody)) (tt:=162) Tryz.underlying164 h 4 rfl rfl rfl
  refine⟨⟨y0,y1,y2,y3,y4⟩,⟨g0,g1,g2,g3,g4⟩,?_,?_⟩
  ·rw[Ki Tryz.underlying164 h]; kernel_rfl
  ·exact (RL.app (o:=0) (n:=1) r0 rfl (RL.app (o:=1) (n:=1) r1 rfl (RL.app (o:=2) (n:=1) r2 rfl (RL.app (o:=3) (n:=1) r3 rfl (RL.app (o:=4) (n:=1) r4 rfl (RL.nil))))):RL w _ (cs.drop 0))
end
section
open Go.ChangeShapes Go.WideShapes Go.ChangeAt Go.RowKit

instance:RdOf Tryz.prog 302 TTrack where
 size:=Aqb
 of {H enc w spare held fuel cs x} h:=by
  obtain⟨y0,g0,r0⟩:=Kh (α:=(List Int)) (tt:=28) Tryz.underlying302 h 0 rfl rfl rfl
  refine⟨⟨y0⟩,g0,?_,?_⟩
  ·rw[Ki Tryz.underlying302 h]; kernel_rfl
  ·exact (RL.app (o:=0) (n:=1) r0 rfl (RL.nil):RL w _ (cs.drop 0))
instance:RdOf Tryz.prog 161 (List TTrack):=Kg Tryz.underlying161 Aqb 
instance:RdOf Tryz.prog 305 TSave where
 size:=Aqb
 of {H enc w spare held fuel cs x} h:=by
  obtain⟨y0,g0,r0⟩:=Kh (α:=Int) (tt:=3) Tryz.underlying305 h 0 rfl rfl rfl
  obtain⟨y1,g1,r1⟩:=Kh (α:=ByteArray) (tt:=9) Tryz.underlying305 h 1 rfl rfl rfl
  refine⟨⟨y0,y1⟩,⟨g0,g1⟩,?_,?_⟩
  ·rw[Ki Tryz.underlying305 h]; kernel_rfl
  ·exact (RL.app (o:=0) (n:=1) r0 rfl (RL.app (o:=1) (n:=1) r1 rfl (RL.nil)):RL w _ (cs.drop 0))
instance:RdOf Tryz.prog 165 (List TSave):=Kg Tryz.underlying165 Aqb 
instance:RdOf Tryz.prog 166 TFault where
 size:=Aqb
 of {H enc w spare held fuel cs x} h:=by
  obtain⟨y0,g0,r0⟩:=Kh (α:=Int) (tt:=3) Tryz.underlying166 h 0 rfl rfl rfl
  obtain⟨y1,g1,r1⟩:=Kh (α:=Int) (tt:=3) Tryz.underlying166 h 1 rfl rfl rfl
  obtain⟨y2,g2,r2⟩:=Kh (α:=Int) (tt:=3) Tryz.underlying166 h 2 rfl rfl rfl
  refine⟨⟨y0,y1,y2⟩,⟨g0,g1,g2⟩,?_,?_⟩
  ·rw[Ki Tryz.underlying166 h]; kernel_rfl
  ·exact (RL.app (o:=0) (n:=1) r0 rfl (RL.app (o:=1) (n:=1) r1 rfl (RL.app (o:=2) (n:=1) r2 rfl (RL.nil))):RL w _ (cs.drop 0))
instance:RdOf Tryz.prog 168 TPeer where
 size:=Aqb
 of {H enc w spare held fuel cs x} h:=by
  obtain⟨y0,g0,r0⟩:=Kh (α:=Int) (tt:=3) Tryz.underlying168 h 0 rfl rfl rfl
  obtain⟨y1,g1,r1⟩:=Kh (α:=Int) (tt:=3) Tryz.underlying168 h 1 rfl rfl rfl
  obtain⟨y2,g2,r2⟩:=Kh (α:=Int) (tt:=3) Tryz.underlying168 h 2 rfl rfl rfl
  obtain⟨y3,g3,r3⟩:=Kh (α:=Int) (tt:=3) Tryz.underlying168 h 3 rfl rfl rfl
  obtain⟨y4,g4,r4⟩:=Kh (α:=(List TTrack)) (tt:=161) Tryz.underlying168 h 4 rfl rfl rfl
  obtain⟨y5,g5,r5⟩:=Kh (α:=TWorld) (tt:=164) Tryz.underlying168 h 5 rfl rfl rfl
  obtain⟨y6,g6,r6⟩:=Kh (α:=TWorld) (tt:=164) Tryz.underlying168 h 6 rfl rfl rfl
  obtain⟨y7,g7,r7⟩:=Kh (α:=(List (List Int))) (tt:=32) Tryz.underlying168 h 7 rfl rfl rfl
  obtain⟨y8,g8,r8⟩:=Kh (α:=(List TSave)) (tt:=165) Tryz.underlying168 h 8 rfl rfl rfl
  obtain⟨y9,g9,r9⟩:=Kh (α:=(List Int)) (tt:=28) Tryz.underlying168 h 9 rfl rfl rfl
  obtain⟨y10,g10,r10⟩:=Kh (α:=TFault) (tt:=166) Tryz.underlying168 h 10 rfl rfl rfl
  obtain⟨y11,g11,r11⟩:=Kh (α:=Int) (tt:=3) Tryz.underlying168 h 11 rfl rfl rfl
  obtain⟨y12,g12,r12⟩:=Kh (α:=Int) (tt:=3) Tryz.underlying168 h 12 rfl rfl rfl
  refine⟨⟨y0,y1,y2,y3,y4,y5,y6,y7,y8,y9,y10,y11,y12⟩,⟨g0,g1,g2,g3,g4,g5,g6,g7,g8,g9,g10,g11,g12⟩,?_,?_⟩
  ·rw[Ki Tryz.underlying168 h]; kernel_rfl
  ·exact (RL.app (o:=0) (n:=1) r0 rfl (RL.app (o:=1) (n:=1) r1 rfl (RL.app (o:=2) (n:=1) r2 rfl (RL.app (o:=3) (n:=1) r3 rfl (RL.app (o:=4) (n:=1) r4 rfl (RL.app (o:=5) (n:=5) r5 rfl (RL.app (o:=10) (n:=5) r6 rfl (RL.app (o:=15) (n:=1) r7 rfl (RL.app (o:=16) (n:=1) r8 rfl (RL.app (o:=17) (n:=1) r9 rfl (RL.app (o:=18) (n:=3) r10 rfl (RL.app (o:=21) (n:=1) r11 rfl (RL.app (o:=22) (n:=1) r12 rfl (RL.nil))))))))))))):RL w _ (cs.drop 0))
end
section
open Go.ChangeShapes Go.WideShapes Go.ChangeAt Go.RowKit

instance:RdOf Tryz.prog 307 TFlight where
 size:=Aqb
 of {H enc w spare held fuel cs x} h:=by
  obtain⟨y0,g0,r0⟩:=Kh (α:=Int) (tt:=3) Tryz.underlying307 h 0 rfl rfl rfl
  obtain⟨y1,g1,r1⟩:=Kh (α:=ByteArray) (tt:=9) Tryz.underlying307 h 1 rfl rfl rfl
  refine⟨⟨y0,y1⟩,⟨g0,g1⟩,?_,?_⟩
  ·rw[Ki Tryz.underlying307 h]; kernel_rfl
  ·exact (RL.app (o:=0) (n:=1) r0 rfl (RL.app (o:=1) (n:=1) r1 rfl (RL.nil)):RL w _ (cs.drop 0))
instance:RdOf Tryz.prog 175 (List TFlight):=Kg Tryz.underlying175 Aqb 
instance:RdOf Tryz.prog 177 TWire where
 size:=Aqb
 of {H enc w spare held fuel cs x} h:=by
  obtain⟨y0,g0,r0⟩:=Kh (α:=Int) (tt:=3) Tryz.underlying177 h 0 rfl rfl rfl
  obtain⟨y1,g1,r1⟩:=Kh (α:=Int) (tt:=3) Tryz.underlying177 h 1 rfl rfl rfl
  obtain⟨y2,g2,r2⟩:=Kh (α:=Int) (tt:=3) Tryz.underlying177 h 2 rfl rfl rfl
  obtain⟨y3,g3,r3⟩:=Kh (α:=Int) (tt:=3) Tryz.underlying177 h 3 rfl rfl rfl
  obtain⟨y4,g4,r4⟩:=Kh (α:=Int) (tt:=3) Tryz.underlying177 h 4 rfl rfl rfl
  obtain⟨y5,g5,r5⟩:=Kh (α:=Int) (tt:=3) Tryz.underlying177 h 5 rfl rfl rfl
  obtain⟨y6,g6,r6⟩:=Kh (α:=Int) (tt:=3) Tryz.underlying177 h 6 rfl rfl rfl
  obtain⟨y7,g7,r7⟩:=Kh (α:=(List TFlight)) (tt:=175) Tryz.underlying177 h 7 rfl rfl rfl
  obtain⟨y8,g8,r8⟩:=Kh (α:=Int) (tt:=3) Tryz.underlying177 h 8 rfl rfl rfl
  obtain⟨y9,g9,r9⟩:=Kh (α:=Int) (tt:=3) Tryz.underlying177 h 9 rfl rfl rfl
  refine⟨⟨y0,y1,y2,y3,y4,y5,y6,y7,y8,y9⟩,⟨g0,g1,g2,g3,g4,g5,g6,g7,g8,g9⟩,?_,?_⟩
  ·rw[Ki Tryz.underlying177 h]; kernel_rfl
  ·exact (RL.app (o:=0) (n:=1) r0 rfl (RL.app (o:=1) (n:=1) r1 rfl (RL.app (o:=2) (n:=1) r2 rfl (RL.app (o:=3) (n:=1) r3 rfl (RL.app (o:=4) (n:=1) r4 rfl (RL.app (o:=5) (n:=1) r5 rfl (RL.app (o:=6) (n:=1) r6 rfl (RL.app (o:=7) (n:=1) r7 rfl (RL.app (o:=8) (n:=1) r8 rfl (RL.app (o:=9) (n:=1) r9 rfl (RL.nil)))))))))):RL w _ (cs.drop 0))
instance:RdOf Tryz.prog 57 (List TWire):=Kg Tryz.underlying57 Aqb 
instance:RdOf Tryz.prog 54 (List (List TWire)):=Kg Tryz.underlying54 Aqb 
instance:RdOf Tryz.prog 267 TPace where
 size:=Aqb
 of {H enc w spare held fuel cs x} h:=by
  obtain⟨y0,g0,r0⟩:=Kh (α:=Int) (tt:=3) Tryz.underlying267 h 0 rfl rfl rfl
  obtain⟨y1,g1,r1⟩:=Kh (α:=Int) (tt:=3) Tryz.underlying267 h 1 rfl rfl rfl
  obtain⟨y2,g2,r2⟩:=Kh (α:=Int) (tt:=3) Tryz.underlying267 h 2 rfl rfl rfl
  obtain⟨y3,g3,r3⟩:=Kh (α:=Int) (tt:=3) Tryz.underlying267 h 3 rfl rfl rfl
  obtain⟨y4,g4,r4⟩:=Kh (α:=Int) (tt:=3) Tryz.underlying267 h 4 rfl rfl rfl
  refine⟨⟨y0,y1,y2,y3,y4⟩,⟨g0,g1,g2,g3,g4⟩,?_,?_⟩
  ·rw[Ki Tryz.underlying267 h]; kernel_rfl
  ·exact (RL.app (o:=0) (n:=1) r0 rfl (RL.app (o:=1) (n:=1) r1 rfl (RL.app (o:=2) (n:=1) r2 rfl (RL.app (o:=3) (n:=1) r3 rfl (RL.app (o:=4) (n:=1) r4 rfl (RL.nil))))):RL w _ (cs.drop 0))
instance:RdOf Tryz.prog 170 (List TPace):=Kg Tryz.underlying170 Aqb 
instance:RdOf Tryz.prog 55 (List (List TPace)):=Kg Tryz.underlying55 Aqb 
instance:RdOf Tryz.prog 180 TAlarm where
 size:=Aqb
 of {H enc w spare held fuel cs x} h:=by
  obtain⟨y0,g0,r0⟩:=Kh (α:=Int) (tt:=3) Tryz.underlying180 h 0 rfl rfl rfl
  obtain⟨y1,g1,r1⟩:=Kh (α:=(List ByteArray)) (tt:=25) Tryz.underlying180 h 1 rfl rfl rfl
  refine⟨⟨y0,y1⟩,⟨g0,g1⟩,?_,?_⟩
  ·rw[Ki Tryz.underlying180 h]; kernel_rfl
  ·exact (RL.app (o:=0) (n:=1) r0 rfl (RL.app (o:=1) (n:=1) r1 rfl (RL.nil)):RL w _ (cs.drop 0))
instance:RdOf Tryz.prog 58 (List TAlarm):=Kg Tryz.underlying58 Aqb 
instance:RdOf Tryz.prog 173 TSpectator where
 size:=Aqb
 of {H enc w spare held fuel cs x} h:=by
  obtain⟨y0,g0,r0⟩:=Kh (α:=TWorld) (tt:=164) Tryz.underlying173 h 0 rfl rfl rfl
  obtain⟨y1,g1,r1⟩:=Kh (α:=Int) (tt:=3) Tryz.underlying173 h 1 rfl rfl rfl
  refine⟨⟨y0,y1⟩,⟨g0,g1⟩,?_,?_⟩
  ·rw[Ki Tryz.underlying173 h]; kernel_rfl
  ·exact (RL.app (o:=0) (n:=5) r0 rfl (RL.app (o:=5) (n:=1) r1 rfl (RL.nil)):RL w _ (cs.drop 0))
instance:RdOf Tryz.prog 56 (List TSpectator):=Kg Tryz.underlying56 Aqb 
instance:RdOf Tryz.prog 53 (List TPeer):=Kg Tryz.underlying53 Aqb 
instance:RdOf Tryz.prog 60 TMatch where
 size:=Aqb
 of {H enc w spare held fuel cs x} h:=by
  obtain⟨y0,g0,r0⟩:=Kh (α:=TLevel) (tt:=52) Tryz.underlying60 h 0 rfl rfl rfl
  obtain⟨y1,g1,r1⟩:=Kh (α:=Int) (tt:=3) Tryz.underlying60 h 1 rfl rfl rfl
  obtain⟨y2,g2,r2⟩:=Kh (α:=Int) (tt:=3) Tryz.underlying60 h 2 rfl rfl rfl
  obtain⟨y3,g3,r3⟩:=Kh (α:=(List (List Int))) (tt:=32) Tryz.underlying60 h 3 rfl rfl rfl
  obtain⟨y4,g4,r4⟩:=Kh (α:=(List TPeer)) (tt:=53) Tryz.underlying60 h 4 rfl rfl rfl
  obtain⟨y5,g5,r5⟩:=Kh (α:=(List (List TWire))) (tt:=54) Tryz.underlying60 h 5 rfl rfl rfl
  obtain⟨y6,g6,r6⟩:=Kh (α:=(List (List TPace))) (tt:=55) Tryz.underlying60 h 6 rfl rfl rfl
  obtain⟨y7,g7,r7⟩:=Kh (α:=(List (List Int))) (tt:=32) Tryz.underlying60 h 7 rfl rfl rfl
  obtain⟨y8,g8,r8⟩:=Kh (α:=Int) (tt:=3) Tryz.underlying60 h 8 rfl rfl rfl
  obtain⟨y9,g9,r9⟩:=Kh (α:=(List TSpectator)) (tt:=56) Tryz.underlying60 h 9 rfl rfl rfl
  obtain⟨y10,g10,r10⟩:=Kh (α:=(List TWire)) (tt:=57) Tryz.underlying60 h 10 rfl rfl rfl
  obtain⟨y11,g11,r11⟩:=Kh (α:=(List TAlarm)) (tt:=58) Tryz.underlying60 h 11 rfl rfl rfl
  obtain⟨y12,g12,r12⟩:=Kh (α:=Int) (tt:=3) Tryz.underlying60 h 12 rfl rfl rfl
  refine⟨⟨y0,y1,y2,y3,y4,y5,y6,y7,y8,y9,y10,y11,y12⟩,⟨g0,g1,g2,g3,g4,g5,g6,g7,g8,g9,g10,g11,g12⟩,?_,?_⟩
  ·rw[Ki Tryz.underlying60 h]; kernel_rfl
  ·exact (RL.app (o:=0) (n:=1) r0 rfl (RL.app (o:=1) (n:=1) r1 rfl (RL.app (o:=2) (n:=1) r2 rfl (RL.app (o:=3) (n:=1) r3 rfl (RL.app (o:=4) (n:=1) r4 rfl (RL.app (o:=5) (n:=1) r5 rfl (RL.app (o:=6) (n:=1) r6 rfl (RL.app (o:=7) (n:=1) r7 rfl (RL.app (o:=8) (n:=1) r8 rfl (RL.app (o:=9) (n:=1) r9 rfl (RL.app (o:=10) (n:=1) r10 rfl (RL.app (o:=11) (n:=1) r11 rfl (RL.app (o:=12) (n:=1) r12 rfl (RL.nil))))))))))))):RL w _ (cs.drop 0))
end
end Go.Proofs.YtfklmiijhcajdaaGreat
