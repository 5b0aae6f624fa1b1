/-
  Rules, data and contracts of functions: part 24 of the proof.
  Conditions: those that each theorem names.
-/
import Derived.Test.YtoecjaohdnoenaaGreatDDNewMRowk21
set_option linter.unusedVariables false
set_option linter.unusedSimpArgs false
set_option maxRecDepth 8000
set_option maxHeartbeats 8000000
namespace Go.Proofs.YtoecjaohdnoenaaGreat
section
open Go.RowKit

theorem eq_Peer (x y:TPeer) (hg:Enc.gd x):Con Tryz.prog 35 [] [ag x,ag y] [] (B (decide (x=y))):=by
 obtain⟨g_Me,g_Delay,g_Ahead,g_Seed,g_Tracks,g_Base,g_Now,g_Used,g_Saves,g_Sums,g_Fault,g_Rolls,g_Again⟩:=hg
 by_cases e_Me:¬x.Me=y.Me
 ·have hk:decide (x.Me≠y.Me)=true:=by simp[e_Me]
  refine Con.of Tryz.func35 J Tryz.ntmps35 J (fun E => ?_)
  refine Wz [19,18] ?_
  exact Xi J J (Xt [] (by decide) J J (Xf (Gqa fun e=>e_Me (by rw[e])).symm))
 have e_Me:=Classical.not_not.1 e_Me
 have k_Me:decide (x.Me≠y.Me)=false:=by simp[e_Me]
 by_cases e_Delay:¬x.Delay=y.Delay
 ·have hk:decide (x.Delay≠y.Delay)=true:=by simp[e_Delay]
  refine Con.of Tryz.func35 J Tryz.ntmps35 J (fun E => ?_)
  refine Wz [19,78,18] ?_
  exact Xi J J (Xt [] (by decide) J J (Xf (Gqa fun e=>e_Delay (by rw[e])).symm))
 have e_Delay:=Classical.not_not.1 e_Delay
 have k_Delay:decide (x.Delay≠y.Delay)=false:=by simp[e_Delay]
 by_cases e_Ahead:¬x.Ahead=y.Ahead
 ·have hk:decide (x.Ahead≠y.Ahead)=true:=by simp[e_Ahead]
  refine Con.of Tryz.func35 J Tryz.ntmps35 J (fun E => ?_)
  refine Wz [19,85,18] ?_
  exact Xi J J (Xt [] (by decide) J J (Xf (Gqa fun e=>e_Ahead (by rw[e])).symm))
 have e_Ahead:=Classical.not_not.1 e_Ahead
 have k_Ahead:decide (x.Ahead≠y.Ahead)=false:=by simp[e_Ahead]
 by_cases e_Seed:¬x.Seed=y.Seed
 ·have hk:decide (x.Seed≠y.Seed)=true:=by simp[e_Seed]
  refine Con.of Tryz.func35 J Tryz.ntmps35 J (fun E => ?_)
  refine Wz [19,85,78,18] ?_
  exact Xi J J (Xt [] (by decide) J J (Xf (Gqa fun e=>e_Seed (by rw[e])).symm))
 have e_Seed:=Classical.not_not.1 e_Seed
 have k_Seed:decide (x.Seed≠y.Seed)=false:=by simp[e_Seed]
 by_cases e_Tracks:¬x.Tracks=y.Tracks
 ·have hc:=eq_TrackS x.Tracks y.Tracks g_Tracks
  rw[Gqa e_Tracks] at hc
  refine Con.of Tryz.func35 J Tryz.ntmps35 J (fun E => ?_)
  refine Wz [19,99] ?_;refine zx (Qj J J (hc) J) J ?_;refine Wz [5,37] ?_
  exact Xi J J (Xt [] (by decide) J J (Xf (Gqa fun e=>e_Tracks (by rw[e])).symm))
 have e_Tracks:=Classical.not_not.1 e_Tracks
 have hc_Tracks:=eq_TrackS x.Tracks y.Tracks g_Tracks
 rw[Gqb e_Tracks] at hc_Tracks
 by_cases e_Base:¬x.Base=y.Base
 ·have hc:=eq_World x.Base y.Base g_Base
  rw[Gqa e_Base] at hc
  refine Con.of Tryz.func35 J Tryz.ntmps35 J (fun E => ?_)
  refine Wz [19,99] ?_;refine zx (Qj J J (hc_Tracks) J) J ?_;refine Wz [53,41] ?_;refine zx (Qj J J (hc) J) J ?_;refine Wz [5,37] ?_
  exact Xi J J (Xt [] (by decide) J J (Xf (Gqa fun e=>e_Base (by rw[e])).symm))
 have e_Base:=Classical.not_not.1 e_Base
 have hc_Base:=eq_World x.Base y.Base g_Base
 rw[Gqb e_Base] at hc_Base
 by_cases e_Now:¬x.Now=y.Now
 ·have hc:=eq_World x.Now y.Now g_Now
  rw[Gqa e_Now] at hc
  refine Con.of Tryz.func35 J Tryz.ntmps35 J (fun E => ?_)
  refine Wz [19,99] ?_;refine zx (Qj J J (hc_Tracks) J) J ?_;refine Wz [53,41] ?_;refine zx (Qj J J (hc_Base) J) J ?_;refine Wz [53,41] ?_;refine zx (Qj J J (hc) J) J ?_;refine Wz [5,37] ?_
  exact Xi J J (Xt [] (by decide) J J (Xf (Gqa fun e=>e_Now (by rw[e])).symm))
 have e_Now:=Classical.not_not.1 e_Now
 have hc_Now:=eq_World x.Now y.Now g_Now
 rw[Gqb e_Now] at hc_Now
 by_cases e_Used:¬x.Used=y.Used
 ·have hc:=eq_IntSS x.Used y.Used g_Used
  rw[Gqa e_Used] at hc
  refine Con.of Tryz.func35 J Tryz.ntmps35 J (fun E => ?_)
  refine Wz [19,99] ?_;refine zx (Qj J J (hc_Tracks) J) J ?_;refine Wz [53,41] ?_;refine zx (Qj J J (hc_Base) J) J ?_;refine Wz [53,41] ?_;refine zx (Qj J J (hc_Now) J) J ?_;refine Wz [6] ?_;refine zx (Qj J J (hc) J) J ?_;refine Wz [5,37] ?_
  exact Xi J J (Xt [] (by decide) J J (Xf (Gqa fun e=>e_Used (by rw[e])).symm))
 have e_Used:=Classical.not_not.1 e_Used
 have hc_Used:=eq_IntSS x.Used y.Used g_Used
 rw[Gqb e_Used] at hc_Used
 by_cases e_Saves:¬x.Saves=y.Saves
 ·have hc:=eq_SaveS x.Saves y.Saves g_Saves
  rw[Gqa e_Saves] at hc
  refine Con.of Tryz.func35 J Tryz.ntmps35 J (fun E => ?_)
  refine Wz [19,99] ?_;refine zx (Qj J J (hc_Tracks) J) J ?_;refine Wz [53,41] ?_;refine zx (Qj J J (hc_Base) J) J ?_;refine Wz [53,41] ?_;refine zx (Qj J J (hc_Now) J) J ?_;refine Wz [6] ?_;refine zx (Qj J J (hc_Used) J) J ?_;refine Wz [6] ?_;refine zx (Qj J J (hc) J) J ?_;refine Wz [5,37] ?_
  exact Xi J J (Xt [] (by decide) J J (Xf (Gqa fun e=>e_Saves (by rw[e])).symm))
 have e_Saves:=Classical.not_not.1 e_Saves
 have hc_Saves:=eq_SaveS x.Saves y.Saves g_Saves
 rw[Gqb e_Saves] at hc_Saves
 by_cases e_Sums:¬x.Sums=y.Sums
 ·have hc:=eq_IntS x.Sums y.Sums g_Sums
  rw[Gqa e_Sums] at hc
  refine Con.of Tryz.func35 J Tryz.ntmps35 J (fun E => ?_)
  refine Wz [19,99] ?_;refine zx (Qj J J (hc_Tracks) J) J ?_;refine Wz [53,41] ?_;refine zx (Qj J J (hc_Base) J) J ?_;refine Wz [53,41] ?_;refine zx (Qj J J (hc_Now) J) J ?_;refine Wz [6] ?_;refine zx (Qj J J (hc_Used) J) J ?_;refine Wz [6] ?_;refine zx (Qj J J (hc_Saves) J) J ?_;refine Wz [6] ?_;refine zx (Qj J J (hc) J) J ?_;refine Wz [5,37] ?_
  exact Xi J J (Xt [] (by decide) J J (Xf (Gqa fun e=>e_Sums (by rw[e])).symm))
 have e_Sums:=Classical.not_not.1 e_Sums
 have hc_Sums:=eq_IntS x.Sums y.Sums g_Sums
 rw[Gqb e_Sums] at hc_Sums
 by_cases e_Fault:¬x.Fault=y.Fault
 ·have hc:=eq_Fault x.Fault y.Fault g_Fault
  rw[Gqa e_Fault] at hc
  refine Con.of Tryz.func35 J Tryz.ntmps35 J (fun E => ?_)
  refine Wz [19,99] ?_;refine zx (Qj J J (hc_Tracks) J) J ?_;refine Wz [53,41] ?_;refine zx (Qj J J (hc_Base) J) J ?_;refine Wz [53,41] ?_;refine zx (Qj J J (hc_Now) J) J ?_;refine Wz [6] ?_;refine zx (Qj J J (hc_Used) J) J ?_;refine Wz [6] ?_;refine zx (Qj J J (hc_Saves) J) J ?_;refine Wz [6] ?_;refine zx (Qj J J (hc_Sums) J) J ?_;refine Wz [53,41] ?_;refine zx (Qj J J (hc) J) J ?_;refine Wz [5,37] ?_
  exact Xi J J (Xt [] (by decide) J J (Xf (Gqa fun e=>e_Fault (by rw[e])).symm))
 have e_Fault:=Classical.not_not.1 e_Fault
 have hc_Fault:=eq_Fault x.Fault y.Fault g_Fault
 rw[Gqb e_Fault] at hc_Fault
 by_cases e_Rolls:¬x.Rolls=y.Rolls
 ·have hk:decide (x.Rolls≠y.Rolls)=true:=by simp[e_Rolls]
  refine Con.of Tryz.func35 J Tryz.ntmps35 J (fun E => ?_)
  refine Wz [19,99] ?_;refine zx (Qj J J (hc_Tracks) J) J ?_;refine Wz [53,41] ?_;refine zx (Qj J J (hc_Base) J) J ?_;refine Wz [53,41] ?_;refine zx (Qj J J (hc_Now) J) J ?_;refine Wz [6] ?_;refine zx (Qj J J (hc_Used) J) J ?_;refine Wz [6] ?_;refine zx (Qj J J (hc_Saves) J) J ?_;refine Wz [6] ?_;refine zx (Qj J J (hc_Sums) J) J ?_;refine Wz [53,41] ?_;refine zx (Qj J J (hc_Fault) J) J ?_;refine Wz [6,18] ?_
  exact Xi J J (Xt [] (by decide) J J (Xf (Gqa fun e=>e_Rolls (by rw[e])).symm))
 have e_Rolls:=Classical.not_not.1 e_Rolls
 have k_Rolls:decide (x.Rolls≠y.Rolls)=false:=by simp[e_Rolls]
 by_cases e_Again:¬x.Again=y.Again
 ·have hk:decide (x.Again≠y.Again)=true:=by simp[e_Again]
  refine Con.of Tryz.func35 J Tryz.ntmps35 J (fun E => ?_)
  refine Wz [19,99] ?_;refine zx (Qj J J (hc_Tracks) J) J ?_;refine Wz [53,41] ?_;refine zx (Qj J J (hc_Base) J) J ?_;refine Wz [53,41] ?_;refine zx (Qj J J (hc_Now) J) J ?_;refine Wz [6] ?_;refine zx (Qj J J (hc_Used) J) J ?_;refine Wz [6] ?_;refine zx (Qj J J (hc_Saves) J) J ?_;refine Wz [6] ?_;refine zx (Qj J J (hc_Sums) J) J ?_;refine Wz [53,41] ?_;refine zx (Qj J J (hc_Fault) J) J ?_;refine Wz [6,78,18] ?_
  exact Xi J J (Xt [] (by decide) J J (Xf (Gqa fun e=>e_Again (by rw[e])).symm))
 have e_Again:=Classical.not_not.1 e_Again
 have k_Again:decide (x.Again≠y.Again)=false:=by simp[e_Again]
 refine Con.of Tryz.func35 J Tryz.ntmps35 J (fun E => ?_)
 refine Wz [19,99] ?_;refine zx (Qj J J (hc_Tracks) J) J ?_;refine Wz [53,41] ?_;refine zx (Qj J J (hc_Base) J) J ?_;refine Wz [53,41] ?_;refine zx (Qj J J (hc_Now) J) J ?_;refine Wz [6] ?_;refine zx (Qj J J (hc_Used) J) J ?_;refine Wz [6] ?_;refine zx (Qj J J (hc_Saves) J) J ?_;refine Wz [6] ?_;refine zx (Qj J J (hc_Sums) J) J ?_;refine Wz [53,41] ?_;refine zx (Qj J J (hc_Fault) J) J ?_;refine Wz [6,78,62,26,138] ?_
 exact Xi J J (Xt [] (by decide) J J (Xf (Gqb (TPeer.same e_Me e_Delay e_Ahead e_Seed e_Tracks e_Base e_Now e_Used e_Saves e_Sums e_Fault e_Rolls e_Again)).symm))
end
section
open Go.RowKit

structure TFlight where
 At:Int
 Data:ByteArray
 deriving DecidableEq
instance:Enc TFlight:=⟨2,by omega,fun x => [.v (.int .i64 x.At),.v (.string x.Data)],fun _=>rfl,fun x=>Enc.gd x.At∧Enc.gd x.Data,fun x=>Enc.wt x.Data⟩
theorem TFlight.same {x y:TFlight} (h0:x.At=y.At) (h1:x.Data=y.Data):x=y:=by cases x; cases y; simp_all
structure TWire where
 Seed:Int
 Delay:Int
 Jitter:Int
 Loss:Int
 Copies:Int
 Damage:Int
 Now:Int
 Flights:(List TFlight)
 Sent:Int
 Lost:Int
 deriving DecidableEq
instance:Enc TWire:=⟨10,by omega,fun x => [.v (.int .i64 x.Seed),.v (.int .i64 x.Delay),.v (.int .i64 x.Jitter),.v (.int .i64 x.Loss),.v (.int .i64 x.Copies),.v (.int .i64 x.Damage),.v (.int .i64 x.Now),sl x.Flights,.v (.int .i64 x.Sent),.v (.int .i64 x.Lost)],fun _=>rfl,fun x=>Enc.gd x.Seed∧Enc.gd x.Delay∧Enc.gd x.Jitter∧Enc.gd x.Loss∧Enc.gd x.Copies∧Enc.gd x.Damage∧Enc.gd x.Now∧Enc.gd x.Flights∧Enc.gd x.Sent∧Enc.gd x.Lost,fun x=>Enc.wt x.Flights⟩
theorem TWire.same {x y:TWire} (h0:x.Seed=y.Seed) (h1:x.Delay=y.Delay) (h2:x.Jitter=y.Jitter) (h3:x.Loss=y.Loss) (h4:x.Copies=y.Copies) (h5:x.Damage=y.Damage) (h6:x.Now=y.Now) (h7:x.Flights=y.Flights) (h8:x.Sent=y.Sent) (h9:x.Lost=y.Lost):x=y:=by cases x; cases y; simp_all
structure TPace where
 Newest:Int
 Their:Int
 At:Int
 Trip:Int
 Samples:Int
 deriving DecidableEq
instance:Enc TPace:=⟨5,by omega,fun x => [.v (.int .i64 x.Newest),.v (.int .i64 x.Their),.v (.int .i64 x.At),.v (.int .i64 x.Trip),.v (.int .i64 x.Samples)],fun _=>rfl,fun x=>Enc.gd x.Newest∧Enc.gd x.Their∧Enc.gd x.At∧Enc.gd x.Trip∧Enc.gd x.Samples,fun x=>0⟩
theorem TPace.same {x y:TPace} (h0:x.Newest=y.Newest) (h1:x.Their=y.Their) (h2:x.At=y.At) (h3:x.Trip=y.Trip) (h4:x.Samples=y.Samples):x=y:=by cases x; cases y; simp_all
structure TAlarm where
 Tick:Int
 Parts:(List ByteArray)
 deriving DecidableEq
instance:Enc TAlarm:=⟨2,by omega,fun x => [.v (.int .i64 x.Tick),sl x.Parts],fun _=>rfl,fun x=>Enc.gd x.Tick∧Enc.gd x.Parts,fun x=>Enc.wt x.Parts⟩
theorem TAlarm.same {x y:TAlarm} (h0:x.Tick=y.Tick) (h1:x.Parts=y.Parts):x=y:=by cases x; cases y; simp_all
structure TMatch where
 Level:TLevel
 Seed:Int
 Delay:Int
 Scripts:(List (List Int))
 Peers:(List TPeer)
 Wires:(List (List TWire))
 Paces:(List (List TPace))
 Acks:(List (List Int))
 Clock:Int
 Watchers:(List TSpectator)
 Lines:(List TWire)
 Alarms:(List TAlarm)
 Bad:Int
 deriving DecidableEq
instance:Enc TMatch:=⟨13,by omega,fun x => [sl x.Level.Rows,.v (.int .i64 x.Seed),.v (.int .i64 x.Delay),sl x.Scripts,sl x.Peers,sl x.Wires,sl x.Paces,sl x.Acks,.v (.int .i64 x.Clock),sl x.Watchers,sl x.Lines,sl x.Alarms,.v (.int .i64 x.Bad)],fun _=>rfl,fun x=>Enc.gd x.Level∧Enc.gd x.Seed∧Enc.gd x.Delay∧Enc.gd x.Scripts∧Enc.gd x.Peers∧Enc.gd x.Wires∧Enc.gd x.Paces∧Enc.gd x.Acks∧Enc.gd x.Clock∧Enc.gd x.Watchers∧Enc.gd x.Lines∧Enc.gd x.Alarms∧Enc.gd x.Bad,fun x=>Enc.wt x.Level+Enc.wt x.Scripts+Enc.wt x.Peers+Enc.wt x.Wires+Enc.wt x.Paces+Enc.wt x.Acks+Enc.wt x.Watchers+Enc.wt x.Lines+Enc.wt x.Alarms⟩
theorem TMatch.same {x y:TMatch} (h0:x.Level=y.Level) (h1:x.Seed=y.Seed) (h2:x.Delay=y.Delay) (h3:x.Scripts=y.Scripts) (h4:x.Peers=y.Peers) (h5:x.Wires=y.Wires) (h6:x.Paces=y.Paces) (h7:x.Acks=y.Acks) (h8:x.Clock=y.Clock) (h9:x.Watchers=y.Watchers) (h10:x.Lines=y.Lines) (h11:x.Alarms=y.Alarms) (h12:x.Bad=y.Bad):x=y:=by cases x; cases y; simp_all

theorem sz_Flight (x:TFlight) (left:Int) (hg:Enc.gd x) (h0:0≤left) (h1:left≤1048576):Con Tryz.prog 151 [] [ag x,ai left] [] (I (szr (Enc.wt x) left)):=by
 obtain⟨g_At,g_Data⟩:=hg
 have hw:Enc.wt x=Enc.wt x.Data:=rfl
 have hm1:decide ((-1:Int)<0)=true:=rfl
 have hgd_Data:x.Data.size≤9223372036854775807:=g_Data
 have hs_Data:Enc.wt x.Data=x.Data.size:=rfl
 by_cases n_Data:left-(x.Data.size:Int)<0
 ·have hb:decide (left-(x.Data.size:Int)<0)=true:=Gqb n_Data
  refine Con.of Tryz.func151 J Tryz.ntmps151 J (fun E => ?_)
  refine Wz [58,4,13,136,97,189,37] ?_
  exact Xi J J (Xt [] (by decide) J J (Xl (by rw[Z5 (by omega)])))
 have hb_Data:decide (left-(x.Data.size:Int)<0)=false:=Gqa n_Data
 refine Con.of Tryz.func151 J Tryz.ntmps151 J (fun E => ?_)
 refine Wz [58,4,13,136,97,59,173] ?_
 exact Xi J J (Xt [] (by decide) J J (Xl (by rw[Z6 (by omega)]; omega)))
theorem to_Flight (x:TFlight) (hg:Enc.wt x≤1048576):Con Tryz.prog 159 [] [ag x] (ownO (Enc.e x)) (.o (.ag (ownV 0 (Enc.e x)))):=by
 have hw:Enc.wt x=Enc.wt x.Data:=rfl
 refine Con.of Tryz.func159 J Tryz.ntmps159 J (fun E => ?_)
 refine Wz [113,22,2,7,22,2,24,95,24,95,40,49,116,117] ?_
 exact E_cell J J J J (Xt [] (by decide) J J J)
theorem eq_Flight (x y:TFlight) (hg:Enc.gd x):Con Tryz.prog 171 [] [ag x,ag y] [] (B (decide (x=y))):=by
 obtain⟨g_At,g_Data⟩:=hg
 by_cases e_At:¬x.At=y.At
 ·have hk:decide (x.At≠y.At)=true:=by simp[e_At]
  refine Con.of Tryz.func171 J Tryz.ntmps171 J (fun E => ?_)
  refine Wz [19,18] ?_
  exact Xi J J (Xt [] (by decide) J J (Xf (Gqa fun e=>e_At (by rw[e])).symm))
 have e_At:=Classical.not_not.1 e_At
 have k_At:decide (x.At≠y.At)=false:=by simp[e_At]
 by_cases e_Data:¬x.Data=y.Data
 ·have hk:decide (x.Data≠y.Data)=true:=by simp[e_Data]
  refine Con.of Tryz.func171 J Tryz.ntmps171 J (fun E => ?_)
  refine Wz [19,78,228,37] ?_
  exact Xi J J (Xt [] (by decide) J J (Xf (Gqa fun e=>e_Data (by rw[e])).symm))
 have e_Data:=Classical.not_not.1 e_Data
 have k_Data:decide (x.Data≠y.Data)=false:=by simp[e_Data]
 refine Con.of Tryz.func171 J Tryz.ntmps171 J (fun E => ?_)
 refine Wz [19,78,228,26,138] ?_
 exact Xi J J (Xt [] (by decide) J J (Xf (Gqb (TFlight.same e_At e_Data)).symm))
theorem eq_Pace (x y:TPace) (hg:Enc.gd x):Con Tryz.prog 230 [] [ag x,ag y] [] (B (decide (x=y))):=by
 obtain⟨g_Newest,g_Their,g_At,g_Trip,g_Samples⟩:=hg
 by_cases e_Newest:¬x.Newest=y.Newest
 ·have hk:decide (x.Newest≠y.Newest)=true:=by simp[e_Newest]
  refine Con.of Tryz.func230 J Tryz.ntmps230 J (fun E => ?_)
  refine Wz [19,18] ?_
  exact Xi J J (Xt [] (by decide) J J (Xf (Gqa fun e=>e_Newest (by rw[e])).symm))
 have e_Newest:=Classical.not_not.1 e_Newest
 have k_Newest:decide (x.Newest≠y.Newest)=false:=by simp[e_Newest]
 by_cases e_Their:¬x.Their=y.Their
 ·have hk:decide (x.Their≠y.Their)=true:=by simp[e_Their]
  refine Con.of Tryz.func230 J Tryz.ntmps230 J (fun E => ?_)
  refine Wz [19,78,18] ?_
  exact Xi J J (Xt [] (by decide) J J (Xf (Gqa fun e=>e_Their (by rw[e])).symm))
 have e_Their:=Classical.not_not.1 e_Their
 have k_Their:decide (x.Their≠y.Their)=false:=by simp[e_Their]
 by_cases e_At:¬x.At=y.At
 ·have hk:decide (x.At≠y.At)=true:=by simp[e_At]
  refine Con.of Tryz.func230 J Tryz.ntmps230 J (fun E => ?_)
  refine Wz [19,85,18] ?_
  exact Xi J J (Xt [] (by decide) J J (Xf (Gqa fun e=>e_At (by rw[e])).symm))
 have e_At:=Classical.not_not.1 e_At
 have k_At:decide (x.At≠y.At)=false:=by simp[e_At]
 by_cases e_Trip:¬x.Trip=y.Trip
 ·have hk:decide (x.Trip≠y.Trip)=true:=by simp[e_Trip]
  refine Con.of Tryz.func230 J Tryz.ntmps230 J (fun E => ?_)
  refine Wz [19,85,78,18] ?_
  exact Xi J J (Xt [] (by decide) J J (Xf (Gqa fun e=>e_Trip (by rw[e])).symm))
 have e_Trip:=Classical.not_not.1 e_Trip
 have k_Trip:decide (x.Trip≠y.Trip)=false:=by simp[e_Trip]
 by_cases e_Samples:¬x.Samples=y.Samples
 ·have hk:decide (x.Samples≠y.Samples)=true:=by simp[e_Samples]
  refine Con.of Tryz.func230 J Tryz.ntmps230 J (fun E => ?_)
  refine Wz [19,99,18] ?_
  exact Xi J J (Xt [] (by decide) J J (Xf (Gqa fun e=>e_Samples (by rw[e])).symm))
 have e_Samples:=Classical.not_not.1 e_Samples
 have k_Samples:decide (x.Samples≠y.Samples)=false:=by simp[e_Samples]
 refine Con.of Tryz.func230 J Tryz.ntmps230 J (fun E => ?_)
 refine Wz [19,99,62,26,138] ?_
 exact Xi J J (Xt [] (by decide) J J (Xf (Gqb (TPace.same e_Newest e_Their e_At e_Trip e_Samples)).symm))
theorem eq_Alarm (x y:TAlarm) (hg:Enc.gd x):Con Tryz.prog 170 [] [ag x,ag y] [] (B (decide (x=y))):=by
 obtain⟨g_Tick,g_Parts⟩:=hg
 by_cases e_Tick:¬x.Tick=y.Tick
 ·have hk:decide (x.Tick≠y.Tick)=true:=by simp[e_Tick]
  refine Con.of Tryz.func170 J Tryz.ntmps170 J (fun E => ?_)
  refine Wz [19,18] ?_
  exact Xi J J (Xt [] (by decide) J J (Xf (Gqa fun e=>e_Tick (by rw[e])).symm))
 have e_Tick:=Classical.not_not.1 e_Tick
 have k_Tick:decide (x.Tick≠y.Tick)=false:=by simp[e_Tick]
 by_cases e_Parts:¬x.Parts=y.Parts
 ·have hc:=eq_StringS x.Parts y.Parts g_Parts
  rw[Gqa e_Parts] at hc
  refine Con.of Tryz.func170 J Tryz.ntmps170 J (fun E => ?_)
  refine Wz [19,78] ?_;refine zx (Qj J J (hc) J) J ?_;refine Wz [5,37] ?_
  exact Xi J J (Xt [] (by decide) J J (Xf (Gqa fun e=>e_Parts (by rw[e])).symm))
 have e_Parts:=Classical.not_not.1 e_Parts
 have hc_Parts:=eq_StringS x.Parts y.Parts g_Parts
 rw[Gqb e_Parts] at hc_Parts
 refine Con.of Tryz.func170 J Tryz.ntmps170 J (fun E => ?_)
 refine Wz [19,78] ?_;refine zx (Qj J J (hc_Parts) J) J ?_;refine Wz [53,138] ?_
 exact Xi J J (Xt [] (by decide) J J (Xf (Gqb (TAlarm.same e_Tick e_Parts)).symm))
end
section
open Go.RowKit

@[reducible] def mX (x:TMatch) (a b c d e f g h i:V1):List V1 := [a,jn x.Seed,jn x.Delay,b,c,d,e,f,jn x.Clock,g,h,i,jn x.Bad]
@[reducible] def mC (x:TMatch) (n:Nat):List V1:=mX x (.ref n) (.ref (n+1)) (.ref (n+2)) (.ref (n+3)) (.ref (n+4)) (.ref (n+5)) (.ref (n+6)) (.ref (n+7)) (.ref (n+8))
@[reducible] def mR (x:TMatch) (l:List Ob):List Ob := .row 1 (els x.Level.Rows) :: .row 1 (els x.Scripts) :: .row 23 (els x.Peers) :: .row 1 (els x.Wires) :: .row 1 (els x.Paces) :: .row 1 (els x.Acks) :: .row 6 (els x.Watchers) :: .row 10 (els x.Lines) :: .row 2 (els x.Alarms)::l
end
section
open Go.RowKit

section
variable {P:Program} {ops:Array Oper} {o:Oper} {st:St} {m:Nat} {t e:TypeId} {y z:Operand} {zs:List Value} {by_:Nat}
end
instance:PlainE TFlight:=⟨fun x t h=>by
 have h2:t ∈ [T.v (.int .i64 x.At),T.v (.string x.Data)]:=h
 simp only[List.mem_cons,Gxq,or_false] at h2
 rcases h2 with rfl | rfl <;> exact⟨_,rfl⟩⟩
instance:PlainE TPace:=⟨fun x t h=>by
 have h2:t ∈ [T.v (.int .i64 x.Newest),T.v (.int .i64 x.Their),T.v (.int .i64 x.At),T.v (.int .i64 x.Trip),T.v (.int .i64 x.Samples)]:=h
 simp only[List.mem_cons,Gxq,or_false] at h2
 rcases h2 with rfl | rfl | rfl | rfl | rfl <;> exact⟨_,rfl⟩⟩
@[reducible] def zM:List V1 := [nv,jn 0,jn 0,nv,nv,nv,nv,nv,jn 0,nv,nv,nv,jn 0]
@[reducible] def wX (w:TWire) (a:V1):List V1 := [jn w.Seed,jn w.Delay,jn w.Jitter,jn w.Loss,jn w.Copies,jn w.Damage,jn w.Now,a,jn w.Sent,jn w.Lost]
structure MatchIn (x:TMatch):Prop where
 gd:Enc.gd x
 wt:Enc.wt x≤1048576
theorem lens_in {α:Type} [Enc α] {xs:List α} {n:Nat} (h:Enc.wt xs≤n):xs.length≤n∧∀ x∈xs,Enc.wt x≤n:=by
 have hw:Enc.wt xs=xs.length+wts xs:=rfl
 exact⟨by omega,fun x hx=>by have:=wts_le xs x hx; omega⟩
structure MatchLe (x:TMatch):Prop where
 L:Enc.wt x.Level.Rows≤1048576
 S:Enc.wt x.Scripts≤1048576
 P:Enc.wt x.Peers≤1048576
 W:Enc.wt x.Wires≤1048576
 Q:Enc.wt x.Paces≤1048576
 A:Enc.wt x.Acks≤1048576
 V:Enc.wt x.Watchers≤1048576
 K:Enc.wt x.Lines≤1048576
 B:Enc.wt x.Alarms≤1048576
theorem MatchIn.le {x:TMatch} (h:MatchIn x):MatchLe x:=by
 have hw:Enc.wt x=Enc.wt x.Level.Rows+Enc.wt x.Scripts+Enc.wt x.Peers+Enc.wt x.Wires+Enc.wt x.Paces+Enc.wt x.Acks+Enc.wt x.Watchers+Enc.wt x.Lines+Enc.wt x.Alarms:=rfl
 have:=h.wt
 exact⟨by omega,by omega,by omega,by omega,by omega,by omega,by omega,by omega,by omega⟩
theorem rows_in {xs:List (List Int)} (h:Enc.wt xs≤1048576):xs.length≤1048576∧∀ r∈xs,r.length≤1048576:=by
 obtain⟨a,b⟩:=lens_in h
 exact⟨a,fun r hr=>(lens_in (b r hr)).1⟩
end
section
open Go.RowKit
end
section
open Go.RowKit

def V1.tosk (q:Nat):V1→V1
 | .sb p n k=>match Nat.beq p q with
  |true=>match n with
   |0 => .ref q
   |_ => .un
  |false=>(V1.sb p n k).kill [q]
 |x=>x.kill [q]
theorem Wk.sbnil {st:St} {q:Nat} (k:Nat) (hq:st.objs[q]? = some (.box [])) (hk:Nat.blt 0 k=true):Wk st ⟨st.n,st.tmps.map fun t=>(t.1,t.2.mapk (V1.tosk q)),(st.objs.map (Ob.mapk (V1.tosk q))).set q (.row k [])⟩:=by
 intro w H F a h1
 have hb:=h1.obs q
 rw[Yg hq] at hb
 obtain⟨g,t,vs,e1,e2,e3⟩:=hb
 have hsay:=h1.ok.says q
 rw[e1] at hsay
 have hg:w.heap[g]? = some (.cells vs.toArray t (0,0)):=hsay
 have hqlt:=Yh hq
 have hkp:0<k:=Gqt hk
 have hO:OW w (.sl k []) (.slice (some ⟨g,0,none⟩) 0 0) [g]:=OW.sl [] g 0 k 0 t vs.toArray (0,0) (fun _ _=>undef) [] hg (.inl rfl) (Gqi _) (Gqr _) (by simp) hkp (fun e he=>by simp at he) rfl (fun f hf=>by simp at hf) (fun i j hi=>by simp at hi) (fun i j e t fs f h=>by simp at h)
 have hkeep:Keeps w w [g]:=⟨rfl,rfl,rfl,Gqi _,fun _ _ _=>rfl⟩
 obtain⟨hok,htn⟩:=h1.ok.turn (p:=q) (fp := [g]) (by rw[e1]; rfl) hkeep (.ow (.sl k []) (.slice (some ⟨g,0,none⟩) 0 0) [g]) hO (by simp[Pc.fp]) trivial (fun b hb => .inl hb)
 have hone:∀ x v,R1 w H F x v→R1 w (H.put q (.ow (.sl k []) (.slice (some ⟨g,0,none⟩) 0 0) [g])) F (V1.tosk q x) v:=fun x v hx=>by
  cases x with
  | sb p n k' =>
   simp only[V1.tosk]
   split
   ·rename_i hp
    have hpq:=Gxb hp
    subst hpq
    split
    ·obtain⟨g',t',vs',k1,k2,k3,k4⟩:=hx
     rw[e1] at k1
     simp only[Pc.box.injEq] at k1
     obtain⟨rfl,rfl,rfl⟩:=k1
     rw[k4]
     exact⟨.sl k [],[g],by rw[Hs.put_self]⟩
    ·trivial
   ·exact R1.killed h1.ok htn hx
  |_=>exact R1.killed h1.ok htn hx
 refine⟨_,h1.mapk (V1.tosk q) hone hok ((st.objs.map (Ob.mapk (V1.tosk q))).set q (.row k [])) (fun p => ?_),fun p b hb => ?_,htn.gh⟩
 ·by_cases hpq:p=q
  ·subst hpq
   rw[Yg (x := .row k []) (by simp[hqlt])]
   exact⟨_,_,Hs.put_self _ _ _⟩
  ·rw[Gqd,Gq8 (Ne.symm hpq),Gqh]
   have h2:=h1.obs p
   rw[Gqd] at h2
   have h3:=Hs.put_ne H (.ow (.sl k []) (.slice (some ⟨g,0,none⟩) 0 0) [g]) hpq
   cases ho:st.objs[p]? with
   |none=>rw[ho] at h2; exact h3.trans h2
   |some ob=>rw[ho] at h2; exact RB.mapk hone h3 h2
 ·by_cases hpq:p=q
  ·subst hpq
   rw[Hs.put_self] at hb
   exact⟨p,by rw[e1]; exact hb⟩
  ·exact⟨p,by rw[←Hs.put_ne H _ hpq]; exact hb⟩
end
section
open Go.RowKit

def scriptOk (xs:List Int):Bool:=(decide (1≤xs.length)&&decide (xs.length≤400))&&inOk xs
def scriptIn (xs:List Int) (d t:Int):Int:=if (scriptOk xs=true∧inR d 0 5=true)∧0≤t then (if t<d then 0 else xs.getD ((t-d)%(xs.length:Int)).toNat 0) else -1
theorem script_len {xs:List Int} (h:scriptOk xs=true):1≤xs.length∧xs.length≤400:=by
 unfold scriptOk at h
 simp only[Gqj,decide_eq_true_eq] at h
 exact h.1
theorem script_at {xs:List Int} {d t:Int} (h:scriptOk xs=true) (hd:inR d 0 5=true) (h0:0≤t) (h1:¬t<d):∃ hi:((t-d)%(xs.length:Int)).toNat<xs.length,0≤(t-d)%(xs.length:Int)∧(t-d)%(xs.length:Int)<xs.length∧scriptIn xs d t=xs[((t-d)%(xs.length:Int)).toNat]:=by
 have hl:=script_len h
 have h2:0≤(t-d)%(xs.length:Int):=Int.emod_nonneg _ (by omega)
 have h3:(t-d)%(xs.length:Int)<xs.length:=Int.emod_lt_of_pos _ (by omega)
 have hi:((t-d)%(xs.length:Int)).toNat<xs.length:=by omega
 refine⟨hi,h2,h3,?_⟩
 rw[scriptIn,if_pos ⟨⟨h,hd⟩,h0⟩,if_neg h1,Gqd,Gqe hi]
 rfl
theorem script_inR {xs:List Int} {n:Nat} (h:n=xs.length):inR (n:Int) 1 400=(decide (1≤xs.length)&&decide (xs.length≤400)):=by
 subst h
 unfold inR
 congr 1 <;> rw[decide_eq_decide] <;> omega
theorem script_no {xs:List Int} {d t:Int} (h:¬((scriptOk xs=true∧inR d 0 5=true)∧0≤t)):scriptIn xs d t = -1:=if_neg h
theorem script_lo {xs:List Int} {d t:Int} (h:scriptOk xs=true) (hd:inR d 0 5=true) (h0:0≤t) (h1:t<d):scriptIn xs d t=0:=by rw[scriptIn,if_pos ⟨⟨h,hd⟩,h0⟩,if_pos h1]
theorem I_scriptOk (xs:List Int) (hn:Enc.gd xs):Con Tryz.prog 164 [] [al xs] [] (B (scriptOk xs)):=by
 have hl:=X6 xs
 refine Con.of Tryz.func164 J Tryz.ntmps164 J (fun E => ?_)
 refine Wz [33,4,21,190,0,160] ?_;refine zx (Qt.grdT J J J (.hit .stop) (fun hgrd=>Zh J J J)) J ?_;refine Wz [240,42,0,160] ?_;refine zx (Qt.grdT J J J (.hit .stop) (fun hgrd=>Qj J J (I_inputsOk xs hn) J)) J ?_;refine Wz [42,46] ?_
 exact Xi J J (Xt [] (by decide) J J (Xf (by rw[hl,scriptOk]; congr 2 <;> simp <;> omega)))
theorem S_ScriptInput (xs:List Int) (d t:Int) (hn:Enc.gd xs) (ht:I64 t):Con Tryz.prog 155 [] [al xs,ai d,ai t] [] (I (scriptIn xs d t)):=by
 have hl:=X6 xs
 have hx:=hn.1
 obtain⟨ht1,ht2⟩:=ht
 refine Con.of Tryz.func155 J Tryz.ntmps155 J (fun E => ?_)
 refine Wz [129,21] ?_;refine zx (Qj J J (Xs (els xs).length 1 400) J) J ?_;refine Wz [5,0,70] ?_;refine zx (Qt.grdF J J J (.hit .stop) (fun hgrd=>Qj J J (S_inputsOk xs hn) J)) J ?_;refine Wz [154,76,0,70] ?_;refine zx (Qt.grdF J J J (.hit .stop) (fun hgrd=>Qj J J (Xs d 0 5) J)) J ?_;refine Wz [154,76,0,70,242,25] ?_
 refine Q8 J (fun h => ?_) (fun h => ?_)
 ·rw[script_no (fun ⟨⟨q1,q2⟩,q3⟩=>by rw[script_inR hl] at h; unfold scriptOk at q1; rw[Gqj] at q1; rw[q1.1,q1.2,q2] at h; simp at h; omega)]
  refine Wz [35] ?_
  exact Xi J J (Xt [] (by decide) J J J)
 simp only[Gql,Gqv,decide_eq_false_iff_not] at h
 obtain⟨⟨⟨q0,q1⟩,q2⟩,q3⟩:=h
 rw[script_inR hl] at q0
 have q1:scriptOk xs=true:=by unfold scriptOk; rw[q0,q1]; rfl
 have hsl:=script_len q1
 have hd:=Yk.1 q2
 refine Wz [11,28,12] ?_
 refine Q8 J (fun h => ?_) (fun h => ?_)
 ·rw[script_lo q1 q2 (by omega) (Gqc h)]
  refine Wz [35] ?_
  exact Xi J J (Xt [] (by decide) J J J)
 have h9:=Gqg h
 obtain⟨hi,h2,h3,h4⟩:=script_at q1 q2 (by omega) (Gqg h)
 have hat:(els xs)[((t-d)%((els xs).length:Int)).toNat]? = some (Enc.e xs[((t-d)%(xs.length:Int)).toNat]):=by rw[hl]; simp[els,hi]
 have h5:0≤(t-d)%((els xs).length:Int)∧(t-d)%((els xs).length:Int)<((els xs).length:Int):=by rw[hl]; exact⟨h2,h3⟩
 rw[h4]
 refine Wz [11,156,97,0,21,161,84,46] ?_
 exact Xi J J (Xt [] (by decide) J J J)
end
section
open Go.RowKit

def flightOk (f:TFlight):Bool:=inR f.At 0 1100000&&inR (f.Data.size:Int) 1 20000
def WireP (w:TWire):Prop :=
 (inR w.Seed 0 65535=true∧inR w.Delay 0 12=true∧inR w.Jitter 0 12=true) ∧
 (inR w.Loss 0 100=true∧inR w.Copies 0 100=true∧inR w.Damage 0 100=true) ∧
 (inR w.Now 0 1000000=true∧inR w.Sent 0 1000000=true∧inR w.Lost 0 1000000=true) ∧
 w.Flights.length≤200∧w.Flights.all flightOk=true
instance (w:TWire):Decidable (WireP w):=by unfold WireP; infer_instance
def wireOk (w:TWire):Bool:=decide (WireP w)
def paceOk (q:TPace):Bool:=(((inR q.Newest 0 1000001&&inR q.Their 0 1000001)&&inR q.At 0 1000001)&&inR q.Trip 0 1000001)&&inR q.Samples 0 1000001
noncomputable def peerIn (m:TMatch) (i:Nat) (p:TPeer):Bool :=
 ((peerOk p&&decide (p.Me=(i:Int)))&&decide ((p.Tracks.length:Int)=(m.Scripts.length:Int)))&&((decide (p.Base.Level=m.Level)&&decide (p.Seed=m.Seed))&&decide (p.Delay=m.Delay))
def PeersP (m:TMatch):Prop:=m.Peers.length=m.Scripts.length∧∀ (i:Nat) p,m.Peers[i]? = some p→peerIn m i p=true
def LinkLen (m:TMatch) (i:Nat):Prop:=∀ ws qs ks,m.Wires[i]? = some ws→m.Paces[i]? = some qs→m.Acks[i]? = some ks→ws.length=m.Peers.length∧qs.length=m.Peers.length∧ks.length=m.Peers.length
def LinkAt (m:TMatch) (i j:Nat):Prop:=∀ ws qs ks p w q a,m.Wires[i]? = some ws→m.Paces[i]? = some qs→m.Acks[i]? = some ks→m.Peers[i]? = some p→ws[j]? = some w→qs[j]? = some q→ks[j]? = some a→wireOk w=true∧paceOk q=true∧inR a 0 (lenAt p.Tracks i:Nat)=true
def LinksP (m:TMatch):Prop :=
 (m.Wires.length=m.Peers.length∧m.Paces.length=m.Peers.length∧m.Acks.length=m.Peers.length) ∧
 ∀ i,i<m.Peers.length→LinkLen m i∧∀ j:Nat,j<m.Peers.length→LinkAt m i j
noncomputable def watcherIn (m:TMatch) (s:TSpectator) (l:TWire):Bool :=
 (wireOk l&&worldOk s.World)&&(decide (s.World.Level=m.Level)&&decide ((s.World.Scores.length:Int)=(m.Scripts.length:Int)))
def WatchersP (m:TMatch):Prop:=(m.Watchers.length≤3∧m.Lines.length=m.Watchers.length)∧∀ (k:Nat) s l,m.Watchers[k]? = some s→m.Lines[k]? = some l→watcherIn m s l=true
def HeadP (m:TMatch):Prop:=levelOk m.Level=true∧inR m.Seed 0 65535=true∧inR m.Delay 0 5=true∧inR m.Clock 0 1000=true∧inR m.Bad 0 1000000=true
def MatchP (m:TMatch):Prop:=HeadP m∧(1≤m.Scripts.length∧m.Scripts.length≤4)∧m.Scripts.all scriptOk=true∧PeersP m∧LinksP m∧WatchersP m
noncomputable def peersM (m:TMatch):Bool:=@decide (PeersP m) (Classical.propDecidable _)
noncomputable def linksM (m:TMatch):Bool:=@decide (LinksP m) (Classical.propDecidable _)
noncomputable def watchersM (m:TMatch):Bool:=@decide (WatchersP m) (Classical.propDecidable _)
noncomputable def matchOk (m:TMatch):Bool:=@decide (MatchP m) (Classical.propDecidable _)
theorem dT {P:Prop} (h:P):@decide P (Classical.propDecidable _)=true:=@decide_eq_true _ (Classical.propDecidable _) h
theorem dF {P:Prop} (h:¬P):@decide P (Classical.propDecidable _)=false:=@decide_eq_false _ (Classical.propDecidable _) h
theorem dS {P:Prop} (h:@decide P (Classical.propDecidable _)=true):P:=@of_decide_eq_true _ (Classical.propDecidable _) h
end
section
open Go.RowKit

theorem I_PaceOk (q:TPace):Con Tryz.prog 229 [] [ag q] [] (B (paceOk q)):=by
 refine Con.of Tryz.func229 J Tryz.ntmps229 J (fun E => ?_)
 refine Wz [58,24] ?_;refine zx (Qj J J (Xk q.Newest 0 1000001) J) J ?_;refine Wz [82] ?_;refine zx (Qt.grdT J J J (.hit (.hit .stop)) (fun hgrd=>Qj J J (Xk q.Their 0 1000001) J)) J ?_;refine Wz [42,82] ?_;refine zx (Qt.grdT J J J (.hit (.hit .stop)) (fun hgrd=>Qj J J (Xk q.At 0 1000001) J)) J ?_;refine Wz [42,82] ?_;refine zx (Qt.grdT J J J (.hit (.hit .stop)) (fun hgrd=>Qj J J (Xk q.Trip 0 1000001) J)) J ?_;refine Wz [42,82] ?_;refine zx (Qt.grdT J J J (.hit (.hit .stop)) (fun hgrd=>Qj J J (Xk q.Samples 0 1000001) J)) J ?_;refine Wz [42,46] ?_
 exact Xi J J (Xt [] (by decide) J J J)
theorem S_PaceOk (q:TPace):Con Tryz.prog 226 [] [ag q] [] (B (paceOk q)):=by
 refine Con.of Tryz.func226 J Tryz.ntmps226 J (fun E => ?_)
 refine Wz [58,24] ?_;refine zx (Qj J J (Xs q.Newest 0 1000001) J) J ?_;refine Wz [82] ?_;refine zx (Qt.grdT J J J (.hit (.hit .stop)) (fun hgrd=>Qj J J (Xs q.Their 0 1000001) J)) J ?_;refine Wz [42,82] ?_;refine zx (Qt.grdT J J J (.hit (.hit .stop)) (fun hgrd=>Qj J J (Xs q.At 0 1000001) J)) J ?_;refine Wz [42,82] ?_;refine zx (Qt.grdT J J J (.hit (.hit .stop)) (fun hgrd=>Qj J J (Xs q.Trip 0 1000001) J)) J ?_;refine Wz [42,82] ?_;refine zx (Qt.grdT J J J (.hit (.hit .stop)) (fun hgrd=>Qj J J (Xs q.Samples 0 1000001) J)) J ?_;refine Wz [42,46] ?_
 exact Xi J J (Xt [] (by decide) J J J)
section
variable {w:TWire}
theorem wno1 (h:((!inR w.Seed 0 65535 || !inR w.Delay 0 12) || !inR w.Jitter 0 12)=true):wireOk w=false:=Gqa fun ⟨⟨a,b,c⟩,_⟩=>by rw[a,b,c] at h; exact absurd h (by decide)
theorem wno2 (h:((!inR w.Loss 0 100 || !inR w.Copies 0 100) || !inR w.Damage 0 100)=true):wireOk w=false:=Gqa fun ⟨_,⟨a,b,c⟩,_⟩=>by rw[a,b,c] at h; exact absurd h (by decide)
theorem flight_no {f:TFlight} (h:(!inR f.At 0 1100000 || !inR (f.Data.size:Int) 1 20000)=true):flightOk f=false:=by
 rw[flightOk]
 cases h1:inR f.At 0 1100000
 ·rfl
 ·rw[h1] at h; simpa using h
theorem flight_yes {f:TFlight} (h:(!inR f.At 0 1100000 || !inR (f.Data.size:Int) 1 20000)=false):flightOk f=true:=by
 rw[flightOk]
 simpa using h
theorem wire_all (h1:((!inR w.Seed 0 65535 || !inR w.Delay 0 12) || !inR w.Jitter 0 12)=false) (h2:((!inR w.Loss 0 100 || !inR w.Copies 0 100) || !inR w.Damage 0 100)=false) (h3:((!inR w.Now 0 1000000 || !inR w.Sent 0 1000000) || !inR w.Lost 0 1000000)=false) (h4:w.Flights.length≤200) (h5:w.Flights.all flightOk=true):wireOk w=true:=by
 simp only[Gql,Gqv] at h1 h2 h3
 exact Gqb ⟨⟨h1.1.1,h1.1.2,h1.2⟩,⟨h2.1.1,h2.1.2,h2.2⟩,⟨h3.1.1,h3.1.2,h3.2⟩,h4,h5⟩
theorem wire_S {n:Nat} (h5:w.Flights.all flightOk=true) (hl:n=w.Flights.length):(((((((((decide ((n:Int)≤200)&&inR w.Seed 0 65535)&&inR w.Delay 0 12)&&inR w.Jitter 0 12)&&inR w.Loss 0 100)&&inR w.Copies 0 100)&&inR w.Damage 0 100)&&inR w.Now 0 1000000)&&inR w.Sent 0 1000000)&&inR w.Lost 0 1000000)=wireOk w:=by
 subst hl
 rw[Bool.eq_iff_iff]
 simp only[Gqj,decide_eq_true_eq,wireOk,WireP,h5]
 constructor
 ·intro ⟨⟨⟨⟨⟨⟨⟨⟨⟨a,b⟩,c⟩,d⟩,e⟩,f⟩,g⟩,h⟩,i⟩,j⟩
  exact⟨⟨b,c,d⟩,⟨e,f,g⟩,⟨h,i,j⟩,by omega,trivial⟩
 ·intro ⟨⟨b,c,d⟩,⟨e,f,g⟩,⟨h,i,j⟩,a,_⟩
  exact⟨⟨⟨⟨⟨⟨⟨⟨⟨by omega,b⟩,c⟩,d⟩,e⟩,f⟩,g⟩,h⟩,i⟩,j⟩
theorem wno3 (h:((!inR w.Now 0 1000000 || !inR w.Sent 0 1000000) || !inR w.Lost 0 1000000)=true):wireOk w=false:=Gqa fun ⟨_,_,⟨a,b,c⟩,_⟩=>by rw[a,b,c] at h; exact absurd h (by decide)
end
theorem I_WireOk (x:TWire) (hg:Enc.gd x):Con Tryz.prog 64 [] [ag x] [] (B (wireOk x)):=by
 obtain⟨gSe,gDe,gJi,gLo,gCo,gDa,gNo,gFl,gSt,gLt⟩:=hg
 have hl:=X6 x.Flights
 refine Con.of Tryz.func64 J Tryz.ntmps64 J (fun E => ?_)
 refine Wz [58,27] ?_;refine zx (Qj J J (Xk x.Seed 0 65535) J) J ?_;refine Wz [5,80] ?_;refine zx (Qt.grdF J J J (.hit (.hit .stop)) (fun hgrd=>Qj J J (Xk x.Delay 0 12) J)) J ?_;refine Wz [77,72] ?_;refine zx (Qt.grdF J J J (.hit (.hit .stop)) (fun hgrd=>Qj J J (Xk x.Jitter 0 12) J)) J ?_;refine Wz [77,25] ?_
 refine Q8 J (fun h1 => ?_) (fun h1 => ?_)
 ·rw[wno1 h1]
  refine Wz [35] ?_
  exact Xi J J (Xt [] (by decide) J J J)
 refine AWP.pre (st':=(⟨_,[(1,.o (.c (.ptr 0 0)))],[.box ((Enc.e x).map (V1.rd []))]⟩:St)) ?_ (Xv [0] (by kernel_rfl))
 refine Wz [11,27] ?_;refine zx (Qj J J (Xk x.Loss 0 100) J) J ?_;refine Wz [5,80] ?_;refine zx (Qt.grdF J J J (.hit (.hit .stop)) (fun hgrd=>Qj J J (Xk x.Copies 0 100) J)) J ?_;refine Wz [77,72] ?_;refine zx (Qt.grdF J J J (.hit (.hit .stop)) (fun hgrd=>Qj J J (Xk x.Damage 0 100) J)) J ?_;refine Wz [77,25] ?_
 refine Q8 J (fun h2 => ?_) (fun h2 => ?_)
 ·rw[wno2 h2]
  refine Wz [35] ?_
  exact Xi J J (Xt [] (by decide) J J J)
 refine AWP.pre (st':=(⟨_,[(1,.o (.c (.ptr 0 0)))],[.box ((Enc.e x).map (V1.rd []))]⟩:St)) ?_ (Xv [0] (by kernel_rfl))
 refine Wz [11,27] ?_;refine zx (Qj J J (Xk x.Now 0 1000000) J) J ?_;refine Wz [5,80] ?_;refine zx (Qt.grdF J J J (.hit (.hit .stop)) (fun hgrd=>Qj J J (Xk x.Sent 0 1000000) J)) J ?_;refine Wz [77,72] ?_;refine zx (Qt.grdF J J J (.hit (.hit .stop)) (fun hgrd=>Qj J J (Xk x.Lost 0 1000000) J)) J ?_;refine Wz [77,25] ?_
 refine Q8 J (fun h3 => ?_) (fun h3 => ?_)
 ·rw[wno3 h3]
  refine Wz [35] ?_
  exact Xi J J (Xt [] (by decide) J J J)
 refine AWP.pre (st':=(⟨_,[(1,.o (.c (.ptr 0 0)))],[.box ((Enc.e x).map (V1.rd []))]⟩:St)) ?_ (Xv [0] (by kernel_rfl))
 refine Wz [11,27,21,212,2] ?_
 refine Q8 J (fun h4 => ?_) (fun h4 => ?_)
 ·have h4:=Gqc h4
  rw[show wireOk x=false from Gqa fun ⟨_,_,_,q,_⟩=>by omega]
  refine Wz [35] ?_
  exact Xi J J (Xt [] (by decide) J J J)
 have h4:=Gqg h4
 refine AWP.pre (st':=(⟨_,[(1,.o (.c (.ptr 0 0)))],[.box ((Enc.e x).map (V1.rd []))]⟩:St)) ?_ (Xv [0] (by kernel_rfl))
 refine Wz [11,27,104,2,50] ?_;refine Xe (fun m st=>∃ k:Nat,k+m=x.Flights.length∧((x.Flights.take k).all flightOk=true)∧st=(⟨_,[(1,.o (.c (.ptr 0 0))),(58,L x.Flights),(59,I (els x.Flights).length),(60,I k)],[.box ((Enc.e x).map (V1.rd []))]⟩:St)) (x.Flights.length) ⟨_,⟨0,by omega,by simp,J⟩,Xv [0] (by kernel_rfl)⟩ ?_
 rintro m_A _ ⟨k,hk_A,hp_A,rfl⟩
 refine Wz [7,12,16] ?_
 refine Q8 J (fun h => ?_) (fun h => ?_)
 ·have h5:k<x.Flights.length:=by have:=Gqc h; omega
  have hat:=X5 h5
  refine Wz [9,7,89,22,49,24] ?_;refine zx (Qj J J (Xk x.Flights[k].At 0 1100000) J) J ?_;refine Wz [5,80] ?_;refine zx (Qt.grdF J J J (.hit (.hit .stop)) (fun hgrd=>Zj J J J)) J ?_;refine zx (Qt.grdF J J J (.hit (.hit (.hit .stop))) (fun hgrd=>Qj J J (Xk x.Flights[k].Data.size 1 20000) J)) J ?_;refine Wz [229,25] ?_
  refine Q8 J (fun h6 => ?_) (fun h6 => ?_)
  ·rw[show wireOk x=false from Gqa fun ⟨_,_,_,_,q⟩=>by rw[all_no h5 (flight_no h6)] at q; cases q]
   refine Wz [55,88] ?_
   exact Xi J J (Xt [] (by decide) J J J)
  ·refine Wz [124,60,100,14,0,134] ?_
   refine Qz ?_
   exact⟨x.Flights.length-(k+1),by omega,_,⟨k+1,by omega,Xz hp_A h5 (flight_yes h6),J⟩,Xv [0] (by kernel_rfl)⟩
 have h5:¬((k:Int)<(els x.Flights).length):=Gqg h
 rw[wire_all h1 h2 h3 (by omega) (Xy hp_A (by omega))]
 refine Wz [94] ?_
 exact Xi J J (Xt [] (by decide) J J J)
theorem S_WireOk (x:TWire) (hg:Enc.gd x):Con Tryz.prog 57 [] [ag x] [] (B (wireOk x)):=by
 obtain⟨gSe,gDe,gJi,gLo,gCo,gDa,gNo,gFl,gSt,gLt⟩:=hg
 have hl:=X6 x.Flights
 have hx:=gFl.1
 refine Con.of Tryz.func57 J Tryz.ntmps57 J (fun E => ?_)
 refine Wz [58,39] ?_;refine Xe (fun m st=>∃ k:Nat,k+m=x.Flights.length∧((x.Flights.take k).all flightOk=true)∧st=(⟨_,[(1,.o (.c (.ptr 0 0))),(3,I k)],[.box ((Enc.e x).map (V1.rd []))]⟩:St)) (x.Flights.length) ⟨_,⟨0,by omega,by simp,J⟩,Xv [0] (by kernel_rfl)⟩ ?_
 rintro m_A _ ⟨k,hk_A,hp_A,rfl⟩
 refine Wz [111,13,21,12] ?_
 refine Q8 J (fun h => ?_) (fun h => ?_)
 ·have h5:k<x.Flights.length:=by have:=Gqc h; omega
  have hat:=X5 h5
  refine Wz [9,36,121,169] ?_;refine zx (Qj J J (Xs x.Flights[k].At 0 1100000) J) J ?_;refine Wz [5,80,145,208] ?_;refine zx (Qt.grdF J J J (.hit (.hit (.hit (.hit .stop)))) (fun hgrd=>Zd J J J J (by decide))) J ?_;refine zx (Qt.grdF J J J (.hit (.hit (.hit (.hit (.hit .stop))))) (fun hgrd=>Zl J J J J)) J ?_;refine zx (Qt.grdF J J J (.hit (.hit (.hit (.hit (.hit (.hit .stop)))))) (fun hgrd=>Zj J J J)) J ?_;refine zx (Qt.grdF J J J (.hit (.hit (.hit (.hit (.hit (.hit (.hit .stop))))))) (fun hgrd=>Qj J J (Xs x.Flights[k].Data.size 1 20000) J)) J ?_;refine zx (Qt.grdF J J J (.hit (.hit (.hit (.hit (.hit (.hit (.hit (.hit .stop)))))))) (fun hgrd=>Q3 J J J)) J ?_;refine Wz [25] ?_
  refine Q8 J (fun h6 => ?_) (fun h6 => ?_)
  ·rw[show wireOk x=false from Gqa fun ⟨_,_,_,_,q⟩=>by rw[all_no h5 (flight_no h6)] at q; cases q]
   refine Wz [55,88] ?_
   exact Xi J J (Xt [] (by decide) J J J)
  ·refine Wz [124,241,14] ?_
   refine Wz [3] ?_
   exact⟨x.Flights.length-(k+1),by omega,_,⟨k+1,by omega,Xz hp_A h5 (flight_yes h6),J⟩,Xv [0] (by kernel_rfl)⟩
 have h5:¬((k:Int)<(els x.Flights).length):=Gqg h
 have hall:=Xy hp_A (by omega)
 refine Wz [68,24,21,174,82] ?_;refine zx (Qt.grdT J J J (.hit (.hit .stop)) (fun hgrd=>Qj J J (Xs x.Seed 0 65535) J)) J ?_;refine Wz [42,82] ?_;refine zx (Qt.grdT J J J (.hit (.hit .stop)) (fun hgrd=>Qj J J (Xs x.Delay 0 12) J)) J ?_;refine Wz [42,82] ?_;refine zx (Qt.grdT J J J (.hit (.hit .stop)) (fun hgrd=>Qj J J (Xs x.Jitter 0 12) J)) J ?_;refine Wz [42,82] ?_;refine zx (Qt.grdT J J J (.hit (.hit .stop)) (fun hgrd=>Qj J J (Xs x.Loss 0 100) J)) J ?_;refine Wz [42,82] ?_;refine zx (Qt.grdT J J J (.hit (.hit .stop)) (fun hgrd=>Qj J J (Xs x.Copies 0 100) J)) J ?_;refine Wz [42,82] ?_;refine zx (Qt.grdT J J J (.hit (.hit .stop)) (fun hgrd=>Qj J J (Xs x.Damage 0 100) J)) J ?_;refine Wz [42,82] ?_;refine zx (Qt.grdT J J J (.hit (.hit .stop)) (fun hgrd=>Qj J J (Xs x.Now 0 1000000) J)) J ?_;refine Wz [42,82] ?_;refine zx (Qt.grdT J J J (.hit (.hit .stop)) (fun hgrd=>Qj J J (Xs x.Sent 0 1000000) J)) J ?_;refine Wz [42,82] ?_;refine zx (Qt.grdT J J J (.hit (.hit .stop)) (fun hgrd=>Qj J J (Xs x.Lost 0 1000000) J)) J ?_;refine Wz [42,46] ?_
 exact Xi J J (Xt [] (by decide) J J (Xf (wire_S hall hl)))
end
end Go.Proofs.YtoecjaohdnoenaaGreat
