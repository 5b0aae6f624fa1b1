/-
  Rules, data and contracts of functions: part 46 of the proof.
  Conditions: those that each theorem names.
-/
import Derived.Test.YtalaljeokcpfnaaGreatDDPlayRowk43
import Derived.Test.YtalaljeokcpfnaaGreatDDPlayRowk44
set_option linter.unusedVariables false
set_option linter.unusedSimpArgs false
set_option maxRecDepth 8000
set_option maxHeartbeats 8000000
namespace Go.Proofs.YtalaljeokcpfnaaGreat
section
open Tryz
open Go.RowKit

theorem wts_pace:∀ xs:List TPace,wts xs=0
 | []=>rfl
 |x::xs=>by simp[wts,wts_pace xs,Enc.wt]
theorem sz_PaceS (xs:List TPace) (left:Int) (hg:Enc.gd xs) (h0:0≤left) (h1:left≤1048576):Co 61 [] [al xs,ai left] [] (I (szr (Enc.wt xs) left)):=by
 have va_:=@wts_pace; have vb_:=@func61; have vc_:=@ntmps61; exact Bqa
theorem sz_FlightS (xs:List TFlight) (left:Int) (hg:Enc.gd xs) (h0:0≤left) (h1:left≤1048576):Co 128 [] [al xs,ai left] [] (I (szr (Enc.wt xs) left)):=by
 have va_:=@func128; have vb_:=@ntmps128; have vc_:=@sz_Flight; have vd_:=fun{R G:Prop}=>@Wz R G [9,10,78,0]; exact Bqb
def zFlight:List T := [.v (.int .i64 0),.v (.string ⟨#[]⟩)]
theorem to_FlightS (xs:List TFlight) (hg:Enc.wt xs≤1048576):Co 151 [] [al xs] [.row 2 (els xs)] (Aqg 0):=by
 have va_:=@func151; have vb_:=@ntmps151; have vc_:=fun{R G:Prop}=>@Wz R G [23,11,25,251,16,51]; let vd_:=2; let ve_:=zFlight; have vf_:=@to_Flight; exact Bqf
theorem eq_FlightS (xs ys:List TFlight) (hn:Enc.gd xs) (e:xs=ys:=by rfl):Co 178 [] [al xs,al ys] [] (B (decide (xs=ys))):=by
 have va_:=@func178; have vb_:=@ntmps178; have vc_:=@eq_Flight; exact Bqd
def zPace:List T := [.v (.int .i64 0),.v (.int .i64 0),.v (.int .i64 0),.v (.int .i64 0),.v (.int .i64 0)]
theorem to_PaceS (xs:List TPace) (hg:Enc.wt xs≤1048576):Co 84 [] [al xs] [.row 5 (els xs)] (Aqg 0):=by
 have va_:=@wts_pace; have vb_:=@func84; have vc_:=@ntmps84; let vd_:=5; let ve_:=zPace; have vf_:=@to_Pace; exact Bqe
theorem eq_PaceS (xs ys:List TPace) (hn:Enc.gd xs) (e:xs=ys:=by rfl):Co 107 [] [al xs,al ys] [] (B (decide (xs=ys))):=by
 have va_:=@func107; have vb_:=@ntmps107; have vc_:=@eq_Pace; exact Bqd
theorem sz_AlarmS (xs:List TAlarm) (left:Int) (hg:Enc.gd xs) (h0:0≤left) (h1:left≤1048576):Co 18 [] [al xs,ai left] [] (I (szr (Enc.wt xs) left)):=by
 have va_:=@func18; have vb_:=@ntmps18; have vc_:=@sz_Alarm; have vd_:=fun{R G:Prop}=>@Wz R G [9,10,78,0]; exact Bqb
def zAlarm:List T := [.v (.int .i64 0),.sl 1 []]
theorem to_AlarmS (xs:List TAlarm) (hg:Enc.wt xs≤1048576):Co 30 [] [al xs] [.row 2 (els xs)] (Aqg 0):=by
 have va_:=@func30; have vb_:=@ntmps30; have vc_:=fun{R G:Prop}=>@Wz R G [23,11,25,258,16,51]; let vd_:=2; let ve_:=zAlarm; have vf_:=@to_Alarm; exact Bqf
theorem eq_AlarmS (xs ys:List TAlarm) (hn:Enc.gd xs) (e:xs=ys:=by rfl):Co 41 [] [al xs,al ys] [] (B (decide (xs=ys))):=by
 have va_:=@func41; have vb_:=@ntmps41; have vc_:=@eq_Alarm; exact Bqd
theorem sz_SpectatorS (xs:List TSpectator) (left:Int) (hg:Enc.gd xs) (h0:0≤left) (h1:left≤1048576):Co 16 [] [al xs,ai left] [] (I (szr (Enc.wt xs) left)):=by
 have va_:=@func16; have vb_:=@ntmps16; have vc_:=@sz_Spectator; have vd_:=fun{R G:Prop}=>@Wz R G [9,10,78,0]; exact Bqb
def zSpectator:List T := [.sl 1 [],.v (.int .i64 0),.v (.int .i64 0),.sl 1 [],.sl 1 [],.v (.int .i64 0)]
theorem to_SpectatorS (xs:List TSpectator) (hg:Enc.wt xs≤1048576):Co 28 [] [al xs] [.row 6 (els xs)] (Aqg 0):=by
 have va_:=@func28; have vb_:=@ntmps28; have vc_:=fun{R G:Prop}=>@Wz R G [23,11,25,258,16,51]; let vd_:=6; let ve_:=zSpectator; have vf_:=@to_Spectator; exact Bqf
theorem eq_SpectatorS (xs ys:List TSpectator) (hn:Enc.gd xs) (e:xs=ys:=by rfl):Co 39 [] [al xs,al ys] [] (B (decide (xs=ys))):=by
 have va_:=@func39; have vb_:=@ntmps39; have vc_:=@eq_Spectator; exact Bqd
theorem sz_Wire (x:TWire) (left:Int) (hg:Enc.gd x) (h0:0≤left) (h1:left≤1048576):Co 63 [] [ag x,ai left] [] (I (szr (Enc.wt x) left)):=by
 obtain⟨g_Seed,g_Delay,g_Jitter,g_Loss,g_Copies,g_Damage,g_Now,g_Flights,g_Sent,g_Lost⟩:=hg
 have hw:Enc.wt x=Enc.wt x.Flights:=rfl
 have hm1:decide ((-1:Int)<0)=true:=rfl
 have hc_Flights:=sz_FlightS x.Flights (left) g_Flights Aqa Aqa 
 by_cases n_Flights:left<Enc.wt x.Flights
 ·rw[Ub n_Flights] at hc_Flights
  refine Con.o func63 ntmps63 fun E=>?_;refine Wz [96,65] ?_;refine kc0 hc_Flights ?_;refine Wz [143,115] ?_
  exact Bzi
 rw[Uc Aqa] at hc_Flights
 have hb_Flights:decide (left-Enc.wt x.Flights<0)=false:=Gqa Aqa 
 refine Con.o func63 ntmps63 fun E=>?_;refine Wz [96,65] ?_;refine kc0 hc_Flights ?_;refine Wz [126,11,36] ?_
 exact E_w [] J (X0 Bxb)
theorem to_Wire (x:TWire) (hg:Enc.wt x≤1048576):Co 86 [] [ag x] (ownO (Enc.e x)) (.o (.ag (ownV 0 (Enc.e x)))):=by
 have hw:Enc.wt x=Enc.wt x.Flights:=rfl
 refine Con.o func86 ntmps86 fun E=>?_;refine Wz [59,1,3,82,1,18,98,98,98,98,98,98,98] ?_;refine kc1 (to_FlightS x.Flights Aqa) ?_;refine Wz [98,98,52,7,39,73] ?_
 exact Xm J J J J (Yh [3] Aqc J J J)
theorem eq_Wire (x y:TWire) (hg:Enc.gd x) (e:x=y:=by rfl):Co 109 [] [ag x,ag y] [] (B (decide (x=y))):=by
 subst e
 obtain⟨g_Seed,g_Delay,g_Jitter,g_Loss,g_Copies,g_Damage,g_Now,g_Flights,g_Sent,g_Lost⟩:=hg
 have k_Seed:decide (x.Seed≠x.Seed)=false:=Aqd
 have k_Delay:decide (x.Delay≠x.Delay)=false:=Aqd
 have k_Jitter:decide (x.Jitter≠x.Jitter)=false:=Aqd
 have k_Loss:decide (x.Loss≠x.Loss)=false:=Aqd
 have k_Copies:decide (x.Copies≠x.Copies)=false:=Aqd
 have k_Damage:decide (x.Damage≠x.Damage)=false:=Aqd
 have k_Now:decide (x.Now≠x.Now)=false:=Aqd
 have hc_Flights:=eq_FlightS x.Flights x.Flights g_Flights
 rw[Gqb rfl] at hc_Flights
 have k_Sent:decide (x.Sent≠x.Sent)=false:=Aqd
 have k_Lost:decide (x.Lost≠x.Lost)=false:=Aqd
 refine Con.o func109 ntmps109 fun E=>?_;refine Wz [43,131,16,173,22,99,22,99,22,99,22,99,22,99,22,99,22,99] ?_;refine kc0 hc_Flights ?_;refine Wz [6,99,22,99,22,28,101] ?_
 exact Bzl
theorem sz_WireS (xs:List TWire) (left:Int) (hg:Enc.gd xs) (h0:0≤left) (h1:left≤1048576):Co 17 [] [al xs,ai left] [] (I (szr (Enc.wt xs) left)):=by
 have va_:=@func17; have vb_:=@ntmps17; have vc_:=@sz_Wire; have vd_:=fun{R G:Prop}=>@Wz R G [9,10,78,0]; exact Bqb
def zWire:List T := [.v (.int .i64 0),.v (.int .i64 0),.v (.int .i64 0),.v (.int .i64 0),.v (.int .i64 0),.v (.int .i64 0),.v (.int .i64 0),.sl 2 [],.v (.int .i64 0),.v (.int .i64 0)]
theorem to_WireS (xs:List TWire) (hg:Enc.wt xs≤1048576):Co 29 [] [al xs] [.row 10 (els xs)] (Aqg 0):=by
 have hlen:=Y7 xs
 have hw:Enc.wt xs=xs.length+wts xs:=rfl
 refine Con.o func29 ntmps29 fun E=>?_;refine Wz [23,11,25] ?_;refine M1 (Vi 2 J J J J Aqa Aqa Aqa J Aqc) J J ?_;refine Wz [16,51] ?_;refine A_lt xs.length (fun k => [(0,L xs),(3,Aqg 0),(4,I k)]) (fun k => [.row 10 (part xs zWire k)]) (Yk [0] Aqc J (Vy (Kd xs _)) (.c J (.c J (.c J (.nil))))) ?_
 intro m_A k hk_A
 refine Wz [114] ?_
 refine Xb J (fun h=>?_) (fun h=>?_)
 ·have h3:k<xs.length:=Bqx
  have hat:=Y4 h3
  have hz:=Ka xs zWire h3
  have hpl:(k:Int)<(part xs zWire k).length:=Bxr
  have hwt:Enc.wt xs[k]≤wts xs:=Um xs _ (Gqe h3)
  have hc:=to_Wire xs[k] Aqa 
  refine Wz [9,27,141,0,78] ?_;refine kc1 hc ?_;refine Wz [204,206,130] ?_
  exact .t (k+1) (Yk [0] Aqc J (Vy (Kc xs zWire h3 _ (by rfl) (by rfl)).symm) (.c J (.c J (.c J (.nil)))))
 ·have h3:¬((k:Int)<(els xs).length):=Gqd h
  refine Wz [74] ?_
  exact Bz7
theorem eq_WireS (xs ys:List TWire) (hn:Enc.gd xs) (e:xs=ys:=by rfl):Co 40 [] [al xs,al ys] [] (B (decide (xs=ys))):=by
 have va_:=@func40; have vb_:=@ntmps40; have vc_:=@eq_Wire; exact Bqd
theorem sz_WireSS (xs:List (List TWire)) (left:Int) (hg:Enc.gd xs) (h0:0≤left) (h1:left≤1048576):Co 14 [] [al xs,ai left] [] (I (szr (Enc.wt xs) left)):=by
 have va_:=@func14; have vb_:=@ntmps14; have vc_:=@sz_WireS; have vd_:=fun{R G:Prop}=>@Wz R G [9,10,158,48]; exact Bqb
theorem to_WireSS (xs:List (List TWire)) (hg:Enc.wt xs≤1048576):Co 26 [] [al xs] [.row 1 (els xs)] (Aqg 0):=by
 have va_:=@func26; have vb_:=@ntmps26; let vc_:=10; have vd_:=@to_WireS; exact Bqu
theorem eq_WireSS (xs ys:List (List TWire)) (hn:Enc.gd xs) (e:xs=ys:=by rfl):Co 37 [] [al xs,al ys] [] (B (decide (xs=ys))):=by
 have va_:=@func37; have vb_:=@ntmps37; have vc_:=@eq_WireS; exact Bqv
theorem sz_PaceSS (xs:List (List TPace)) (left:Int) (hg:Enc.gd xs) (h0:0≤left) (h1:left≤1048576):Co 15 [] [al xs,ai left] [] (I (szr (Enc.wt xs) left)):=by
 have va_:=@func15; have vb_:=@ntmps15; have vc_:=@sz_PaceS; have vd_:=fun{R G:Prop}=>@Wz R G [9,10,158,48]; exact Bqb
theorem to_PaceSS (xs:List (List TPace)) (hg:Enc.wt xs≤1048576):Co 27 [] [al xs] [.row 1 (els xs)] (Aqg 0):=by
 have va_:=@func27; have vb_:=@ntmps27; let vc_:=5; have vd_:=@to_PaceS; exact Bqu
theorem eq_PaceSS (xs ys:List (List TPace)) (hn:Enc.gd xs) (e:xs=ys:=by rfl):Co 38 [] [al xs,al ys] [] (B (decide (xs=ys))):=by
 have va_:=@func38; have vb_:=@ntmps38; have vc_:=@eq_PaceS; exact Bqv
end
section
open Tryz
open Go.RowKit

theorem sz_PeerS (xs:List TPeer) (left:Int) (hg:Enc.gd xs) (h0:0≤left) (h1:left≤1048576):Co 13 [] [al xs,ai left] [] (I (szr (Enc.wt xs) left)):=by
 have va_:=@func13; have vb_:=@ntmps13; have vc_:=@sz_Peer; have vd_:=fun{R G:Prop}=>@Wz R G [9,10,78,0]; exact Bqb
def zPeer:List T := [.v (.int .i64 0),.v (.int .i64 0),.v (.int .i64 0),.v (.int .i64 0),.sl 1 [],.sl 1 [],.v (.int .i64 0),.v (.int .i64 0),.sl 1 [],.sl 1 [],.sl 1 [],.v (.int .i64 0),.v (.int .i64 0),.sl 1 [],.sl 1 [],.sl 1 [],.sl 1 [],.sl 1 [],.v (.int .i64 0),.v (.int .i64 0),.v (.int .i64 0),.v (.int .i64 0),.v (.int .i64 0)]
theorem to_PeerS (xs:List TPeer) (hg:Enc.wt xs≤1048576):Co 25 [] [al xs] [.row 23 (els xs)] (Aqg 0):=by
 have va_:=@func25; have vb_:=@ntmps25; have vc_:=fun{R G:Prop}=>@Wz R G [23,11,25,258,16,51]; let vd_:=23; let ve_:=zPeer; have vf_:=@to_Peer; exact Bqf
theorem eq_PeerS (xs ys:List TPeer) (hn:Enc.gd xs) (e:xs=ys:=by rfl):Co 36 [] [al xs,al ys] [] (B (decide (xs=ys))):=by
 have va_:=@func36; have vb_:=@ntmps36; have vc_:=@eq_Peer; exact Bqd
end
section
open Tryz
open Go.RowKit

theorem to_Match (x:TMatch) (hg:Enc.wt x≤1048576):Co 6 [] [ag x] (mR x []) (.o (.ag [Aqk 0,Aqh x.Seed,Aqh x.Delay,Aqk 1,Aqk 2,Aqk 3,Aqk 4,Aqk 5,Aqh x.Clock,Aqk 6,Aqk 7,Aqk 8,Aqh x.Bad])):=by
 have hw:Enc.wt x=Enc.wt x.Level+Enc.wt x.Scripts+Enc.wt x.Peers+Enc.wt x.Wires+Enc.wt x.Paces+Enc.wt x.Acks+Enc.wt x.Watchers+Enc.wt x.Lines+Enc.wt x.Alarms:=rfl
 refine Con.o func6 ntmps6 fun E=>?_;refine Wz [59,1,3,82,1,56] ?_;refine AL.kp [1,1,2,2,3,3] [(5,.o (.ag ((Enc.e x.Level).map (V1.rd []))))] 3 [(0,.box (Aqi x)),(1,.box [Aqj,Aqh 0,Aqh 0,Aqj,Aqj,Aqj,Aqj,Aqj,Aqh 0,Aqj,Aqj,Aqj,Aqh 0]),(2,.box [Aqj,Aqh 0,Aqh 0,Aqj,Aqj,Aqj,Aqj,Aqj,Aqh 0,Aqj,Aqj,Aqj,Aqh 0])] ?_;refine kc1 (to_Level x.Level Aqa) ?_;refine Wz [79,39,18,98,98] ?_;refine AL.kp [1,1,2,2,3,3,15,0] [] 4 [(0,.box (Aqi x)),(1,.box [Aqj,Aqh 0,Aqh 0,Aqj,Aqj,Aqj,Aqj,Aqj,Aqh 0,Aqj,Aqj,Aqj,Aqh 0]),(2,.box [Aqk 3,Aqh x.Seed,Aqh x.Delay,Aqj,Aqj,Aqj,Aqj,Aqj,Aqh 0,Aqj,Aqj,Aqj,Aqh 0])] ?_;refine kc1 (to_IntSS x.Scripts Aqa) ?_;refine Wz [98] ?_;refine AL.kp [1,1,2,2,3,3,19,0] [] 5 [(0,.box (Aqi x)),(1,.box [Aqj,Aqh 0,Aqh 0,Aqj,Aqj,Aqj,Aqj,Aqj,Aqh 0,Aqj,Aqj,Aqj,Aqh 0]),(2,.box [Aqk 3,Aqh x.Seed,Aqh x.Delay,Aqk 4,Aqj,Aqj,Aqj,Aqj,Aqh 0,Aqj,Aqj,Aqj,Aqh 0])] ?_;refine kc1 (to_PeerS x.Peers Aqa) ?_;refine Wz [98] ?_;refine AL.kp [1,1,2,2,3,3,23,0] [] 6 [(0,.box (Aqi x)),(1,.box [Aqj,Aqh 0,Aqh 0,Aqj,Aqj,Aqj,Aqj,Aqj,Aqh 0,Aqj,Aqj,Aqj,Aqh 0]),(2,.box [Aqk 3,Aqh x.Seed,Aqh x.Delay,Aqk 4,Aqk 5,Aqj,Aqj,Aqj,Aqh 0,Aqj,Aqj,Aqj,Aqh 0])] ?_;refine kc1 (to_WireSS x.Wires Aqa) ?_;refine Wz [98] ?_;refine AL.kp [1,1,2,2,3,3,27,0] [] 7 [(0,.box (Aqi x)),(1,.box [Aqj,Aqh 0,Aqh 0,Aqj,Aqj,Aqj,Aqj,Aqj,Aqh 0,Aqj,Aqj,Aqj,Aqh 0]),(2,.box [Aqk 3,Aqh x.Seed,Aqh x.Delay,Aqk 4,Aqk 5,Aqk 6,Aqj,Aqj,Aqh 0,Aqj,Aqj,Aqj,Aqh 0])] ?_;refine kc1 (to_PaceSS x.Paces Aqa) ?_;refine Wz [98] ?_;refine AL.kp [1,1,2,2,3,3,31,0] [] 8 [(0,.box (Aqi x)),(1,.box [Aqj,Aqh 0,Aqh 0,Aqj,Aqj,Aqj,Aqj,Aqj,Aqh 0,Aqj,Aqj,Aqj,Aqh 0]),(2,.box [Aqk 3,Aqh x.Seed,Aqh x.Delay,Aqk 4,Aqk 5,Aqk 6,Aqk 7,Aqj,Aqh 0,Aqj,Aqj,Aqj,Aqh 0])] ?_;refine kc1 (to_IntSS x.Acks Aqa) ?_;refine Wz [98,98] ?_;refine AL.kp [1,1,2,2,3,3,38,0] [] 9 [(0,.box (Aqi x)),(1,.box [Aqj,Aqh 0,Aqh 0,Aqj,Aqj,Aqj,Aqj,Aqj,Aqh 0,Aqj,Aqj,Aqj,Aqh 0]),(2,.box [Aqk 3,Aqh x.Seed,Aqh x.Delay,Aqk 4,Aqk 5,Aqk 6,Aqk 7,Aqk 8,Aqh x.Clock,Aqj,Aqj,Aqj,Aqh 0])] ?_;refine kc1 (to_SpectatorS x.Watchers Aqa) ?_;refine Wz [98] ?_;refine AL.kp [1,1,2,2,3,3,42,0] [] 10 [(0,.box (Aqi x)),(1,.box [Aqj,Aqh 0,Aqh 0,Aqj,Aqj,Aqj,Aqj,Aqj,Aqh 0,Aqj,Aqj,Aqj,Aqh 0]),(2,.box [Aqk 3,Aqh x.Seed,Aqh x.Delay,Aqk 4,Aqk 5,Aqk 6,Aqk 7,Aqk 8,Aqh x.Clock,Aqk 9,Aqj,Aqj,Aqh 0])] ?_;refine kc1 (to_WireS x.Lines Aqa) ?_;refine Wz [98] ?_;refine AL.kp [1,1,2,2,3,3,46,0] [] 11 [(0,.box (Aqi x)),(1,.box [Aqj,Aqh 0,Aqh 0,Aqj,Aqj,Aqj,Aqj,Aqj,Aqh 0,Aqj,Aqj,Aqj,Aqh 0]),(2,.box [Aqk 3,Aqh x.Seed,Aqh x.Delay,Aqk 4,Aqk 5,Aqk 6,Aqk 7,Aqk 8,Aqh x.Clock,Aqk 9,Aqk 10,Aqj,Aqh 0])] ?_;refine kc1 (to_AlarmS x.Alarms Aqa) ?_
 refine z2 J J J ?_; first | refine Q5 J J J J J J J J ?_ | refine Qy J J J J J J J J J ?_
 refine Wz [1,18,52,3] ?_;refine AL.kp [2,2,3,3] [] 12 [(0,.box (Aqi x)),(1,.box [Aqj,Aqh 0,Aqh 0,Aqj,Aqj,Aqj,Aqj,Aqj,Aqh 0,Aqj,Aqj,Aqj,Aqh 0]),(2,.box [Aqk 3,Aqh x.Seed,Aqh x.Delay,Aqk 4,Aqk 5,Aqk 6,Aqk 7,Aqk 8,Aqh x.Clock,Aqk 9,Aqk 10,Aqk 11,Aqh x.Bad])] ?_;refine z4 J J J ?_;refine AL.kp [2,2] [(52,.o (.ag [Aqk 3,Aqh x.Seed,Aqh x.Delay,Aqk 4,Aqk 5,Aqk 6,Aqk 7,Aqk 8,Aqh x.Clock,Aqk 9,Aqk 10,Aqk 11,Aqh x.Bad]))] 12 [(0,.box (Aqi x)),(1,.box [Aqj,Aqh 0,Aqh 0,Aqj,Aqj,Aqj,Aqj,Aqj,Aqh 0,Aqj,Aqj,Aqj,Aqh 0]),(2,.box [Aqk 3,Aqh x.Seed,Aqh x.Delay,Aqk 4,Aqk 5,Aqk 6,Aqk 7,Aqk 8,Aqh x.Clock,Aqk 9,Aqk 10,Aqk 11,Aqh x.Bad])] ?_;refine Qy J J J J J J J J J ?_;refine AL.kp [2,2] [] 12 [(0,.box (Aqi x)),(1,.box [Aqk 3,Aqh x.Seed,Aqh x.Delay,Aqk 4,Aqk 5,Aqk 6,Aqk 7,Aqk 8,Aqh x.Clock,Aqk 9,Aqk 10,Aqk 11,Aqh x.Bad]),(2,.box [Aqk 3,Aqh x.Seed,Aqh x.Delay,Aqk 4,Aqk 5,Aqk 6,Aqk 7,Aqk 8,Aqh x.Clock,Aqk 9,Aqk 10,Aqk 11,Aqh x.Bad])] ?_;refine Wz [1,73] ?_;refine Xm (cs := [Aqk 3,Aqh x.Seed,Aqh x.Delay,Aqk 4,Aqk 5,Aqk 6,Aqk 7,Aqk 8,Aqh x.Clock,Aqk 9,Aqk 10,Aqk 11,Aqh x.Bad]) J J J J ?_
 exact Yh [3,4,5,6,7,8,9,10,11] Aqc J Aqb Aqb 
theorem sz_Match (x:TMatch) (left:Int) (hg:Enc.gd x) (h0:0≤left) (h1:left≤1048576):Co 4 [] [ag x,ai left] [] (I (szr (Enc.wt x) left)):=by
 obtain⟨g_Level,g_Seed,g_Delay,g_Scripts,g_Peers,g_Wires,g_Paces,g_Acks,g_Clock,g_Watchers,g_Lines,g_Alarms,g_Bad⟩:=hg
 have hw:Enc.wt x=Enc.wt x.Level+Enc.wt x.Scripts+Enc.wt x.Peers+Enc.wt x.Wires+Enc.wt x.Paces+Enc.wt x.Acks+Enc.wt x.Watchers+Enc.wt x.Lines+Enc.wt x.Alarms:=rfl
 have hm1:decide ((-1:Int)<0)=true:=rfl
 have hc_Level:=sz_Level x.Level (left) g_Level Aqa Aqa 
 by_cases n_Level:left<Enc.wt x.Level
 ·rw[Ub n_Level] at hc_Level
  refine Con.o func4 ntmps4 fun E=>?_;refine Wz [96,56,0] ?_;refine kc0 hc_Level ?_;refine Wz [143,115] ?_
  exact Bzi
 rw[Uc Aqa] at hc_Level
 have hb_Level:decide (left-Enc.wt x.Level<0)=false:=Gqa Aqa 
 have hc_Scripts:=sz_IntSS x.Scripts (left-Enc.wt x.Level) g_Scripts Aqa Aqa 
 by_cases n_Scripts:left-Enc.wt x.Level<Enc.wt x.Scripts
 ·rw[Ub n_Scripts] at hc_Scripts
  refine Con.o func4 ntmps4 fun E=>?_;refine Wz [96,56,0] ?_;refine kc0 hc_Level ?_;refine Wz [70] ?_;refine kc0 hc_Scripts ?_;refine Wz [143,115] ?_
  exact Bzi
 rw[Uc Aqa] at hc_Scripts
 have hb_Scripts:decide (left-Enc.wt x.Level-Enc.wt x.Scripts<0)=false:=Gqa Aqa 
 have hc_Peers:=sz_PeerS x.Peers (left-Enc.wt x.Level-Enc.wt x.Scripts) g_Peers Aqa Aqa 
 by_cases n_Peers:left-Enc.wt x.Level-Enc.wt x.Scripts<Enc.wt x.Peers
 ·rw[Ub n_Peers] at hc_Peers
  refine Con.o func4 ntmps4 fun E=>?_;refine Wz [96,56,0] ?_;refine kc0 hc_Level ?_;refine Wz [70] ?_;refine kc0 hc_Scripts ?_;refine Wz [70] ?_;refine kc0 hc_Peers ?_;refine Wz [143,115] ?_
  exact Bzi
 rw[Uc Aqa] at hc_Peers
 have hb_Peers:decide (left-Enc.wt x.Level-Enc.wt x.Scripts-Enc.wt x.Peers<0)=false:=Gqa Aqa 
 have hc_Wires:=sz_WireSS x.Wires (left-Enc.wt x.Level-Enc.wt x.Scripts-Enc.wt x.Peers) g_Wires Aqa Aqa 
 by_cases n_Wires:left-Enc.wt x.Level-Enc.wt x.Scripts-Enc.wt x.Peers<Enc.wt x.Wires
 ·rw[Ub n_Wires] at hc_Wires
  refine Con.o func4 ntmps4 fun E=>?_;refine Wz [96,56,0] ?_;refine kc0 hc_Level ?_;refine Wz [70] ?_;refine kc0 hc_Scripts ?_;refine Wz [70] ?_;refine kc0 hc_Peers ?_;refine Wz [70] ?_;refine kc0 hc_Wires ?_;refine Wz [143,115] ?_
  exact Bzi
 rw[Uc Aqa] at hc_Wires
 have hb_Wires:decide (left-Enc.wt x.Level-Enc.wt x.Scripts-Enc.wt x.Peers-Enc.wt x.Wires<0)=false:=Gqa Aqa 
 have hc_Paces:=sz_PaceSS x.Paces (left-Enc.wt x.Level-Enc.wt x.Scripts-Enc.wt x.Peers-Enc.wt x.Wires) g_Paces Aqa Aqa 
 by_cases n_Paces:left-Enc.wt x.Level-Enc.wt x.Scripts-Enc.wt x.Peers-Enc.wt x.Wires<Enc.wt x.Paces
 ·rw[Ub n_Paces] at hc_Paces
  refine Con.o func4 ntmps4 fun E=>?_;refine Wz [96,56,0] ?_;refine kc0 hc_Level ?_;refine Wz [70] ?_;refine kc0 hc_Scripts ?_;refine Wz [70] ?_;refine kc0 hc_Peers ?_;refine Wz [70] ?_;refine kc0 hc_Wires ?_;refine Wz [70] ?_;refine kc0 hc_Paces ?_;refine Wz [143,115] ?_
  exact Bzi
 rw[Uc Aqa] at hc_Paces
 have hb_Paces:decide (left-Enc.wt x.Level-Enc.wt x.Scripts-Enc.wt x.Peers-Enc.wt x.Wires-Enc.wt x.Paces<0)=false:=Gqa Aqa 
 have hc_Acks:=sz_IntSS x.Acks (left-Enc.wt x.Level-Enc.wt x.Scripts-Enc.wt x.Peers-Enc.wt x.Wires-Enc.wt x.Paces) g_Acks Aqa Aqa 
 by_cases n_Acks:left-Enc.wt x.Level-Enc.wt x.Scripts-Enc.wt x.Peers-Enc.wt x.Wires-Enc.wt x.Paces<Enc.wt x.Acks
 ·rw[Ub n_Acks] at hc_Acks
  refine Con.o func4 ntmps4 fun E=>?_;refine Wz [96,56,0] ?_;refine kc0 hc_Level ?_;refine Wz [70] ?_;refine kc0 hc_Scripts ?_;refine Wz [70] ?_;refine kc0 hc_Peers ?_;refine Wz [70] ?_;refine kc0 hc_Wires ?_;refine Wz [70] ?_;refine kc0 hc_Paces ?_;refine Wz [70] ?_;refine kc0 hc_Acks ?_;refine Wz [143,115] ?_
  exact Bzi
 rw[Uc Aqa] at hc_Acks
 have hb_Acks:decide (left-Enc.wt x.Level-Enc.wt x.Scripts-Enc.wt x.Peers-Enc.wt x.Wires-Enc.wt x.Paces-Enc.wt x.Acks<0)=false:=Gqa Aqa 
 have hc_Watchers:=sz_SpectatorS x.Watchers (left-Enc.wt x.Level-Enc.wt x.Scripts-Enc.wt x.Peers-Enc.wt x.Wires-Enc.wt x.Paces-Enc.wt x.Acks) g_Watchers Aqa Aqa 
 by_cases n_Watchers:left-Enc.wt x.Level-Enc.wt x.Scripts-Enc.wt x.Peers-Enc.wt x.Wires-Enc.wt x.Paces-Enc.wt x.Acks<Enc.wt x.Watchers
 ·rw[Ub n_Watchers] at hc_Watchers
  refine Con.o func4 ntmps4 fun E=>?_;refine Wz [96,56,0] ?_;refine kc0 hc_Level ?_;refine Wz [70] ?_;refine kc0 hc_Scripts ?_;refine Wz [70] ?_;refine kc0 hc_Peers ?_;refine Wz [70] ?_;refine kc0 hc_Wires ?_;refine Wz [70] ?_;refine kc0 hc_Paces ?_;refine Wz [70] ?_;refine kc0 hc_Acks ?_;refine Wz [70] ?_;refine kc0 hc_Watchers ?_;refine Wz [143,115] ?_
  exact Bzi
 rw[Uc Aqa] at hc_Watchers
 have hb_Watchers:decide (left-Enc.wt x.Level-Enc.wt x.Scripts-Enc.wt x.Peers-Enc.wt x.Wires-Enc.wt x.Paces-Enc.wt x.Acks-Enc.wt x.Watchers<0)=false:=Gqa Aqa 
 have hc_Lines:=sz_WireS x.Lines (left-Enc.wt x.Level-Enc.wt x.Scripts-Enc.wt x.Peers-Enc.wt x.Wires-Enc.wt x.Paces-Enc.wt x.Acks-Enc.wt x.Watchers) g_Lines Aqa Aqa 
 by_cases n_Lines:left-Enc.wt x.Level-Enc.wt x.Scripts-Enc.wt x.Peers-Enc.wt x.Wires-Enc.wt x.Paces-Enc.wt x.Acks-Enc.wt x.Watchers<Enc.wt x.Lines
 ·rw[Ub n_Lines] at hc_Lines
  refine Con.o func4 ntmps4 fun E=>?_;refine Wz [96,56,0] ?_;refine kc0 hc_Level ?_;refine Wz [70] ?_;refine kc0 hc_Scripts ?_;refine Wz [70] ?_;refine kc0 hc_Peers ?_;refine Wz [70] ?_;refine kc0 hc_Wires ?_;refine Wz [70] ?_;refine kc0 hc_Paces ?_;refine Wz [70] ?_;refine kc0 hc_Acks ?_;refine Wz [70] ?_;refine kc0 hc_Watchers ?_;refine Wz [70] ?_;refine kc0 hc_Lines ?_;refine Wz [143,115] ?_
  exact Bzi
 rw[Uc Aqa] at hc_Lines
 have hb_Lines:decide (left-Enc.wt x.Level-Enc.wt x.Scripts-Enc.wt x.Peers-Enc.wt x.Wires-Enc.wt x.Paces-Enc.wt x.Acks-Enc.wt x.Watchers-Enc.wt x.Lines<0)=false:=Gqa Aqa 
 have hc_Alarms:=sz_AlarmS x.Alarms (left-Enc.wt x.Level-Enc.wt x.Scripts-Enc.wt x.Peers-Enc.wt x.Wires-Enc.wt x.Paces-Enc.wt x.Acks-Enc.wt x.Watchers-Enc.wt x.Lines) g_Alarms Aqa Aqa 
 by_cases n_Alarms:left-Enc.wt x.Level-Enc.wt x.Scripts-Enc.wt x.Peers-Enc.wt x.Wires-Enc.wt x.Paces-Enc.wt x.Acks-Enc.wt x.Watchers-Enc.wt x.Lines<Enc.wt x.Alarms
 ·rw[Ub n_Alarms] at hc_Alarms
  refine Con.o func4 ntmps4 fun E=>?_;refine Wz [96,56,0] ?_;refine kc0 hc_Level ?_;refine Wz [70] ?_;refine kc0 hc_Scripts ?_;refine Wz [70] ?_;refine kc0 hc_Peers ?_;refine Wz [70] ?_;refine kc0 hc_Wires ?_;refine Wz [70] ?_;refine kc0 hc_Paces ?_;refine Wz [70] ?_;refine kc0 hc_Acks ?_;refine Wz [70] ?_;refine kc0 hc_Watchers ?_;refine Wz [70] ?_;refine kc0 hc_Lines ?_;refine Wz [70] ?_;refine kc0 hc_Alarms ?_;refine Wz [143,115] ?_
  exact Bzi
 rw[Uc Aqa] at hc_Alarms
 have hb_Alarms:decide (left-Enc.wt x.Level-Enc.wt x.Scripts-Enc.wt x.Peers-Enc.wt x.Wires-Enc.wt x.Paces-Enc.wt x.Acks-Enc.wt x.Watchers-Enc.wt x.Lines-Enc.wt x.Alarms<0)=false:=Gqa Aqa 
 refine Con.o func4 ntmps4 fun E=>?_;refine Wz [96,56,0] ?_;refine kc0 hc_Level ?_;refine Wz [70] ?_;refine kc0 hc_Scripts ?_;refine Wz [70] ?_;refine kc0 hc_Peers ?_;refine Wz [70] ?_;refine kc0 hc_Wires ?_;refine Wz [70] ?_;refine kc0 hc_Paces ?_;refine Wz [70] ?_;refine kc0 hc_Acks ?_;refine Wz [70] ?_;refine kc0 hc_Watchers ?_;refine Wz [70] ?_;refine kc0 hc_Lines ?_;refine Wz [70] ?_;refine kc0 hc_Alarms ?_;refine Wz [126,11,36] ?_
 exact E_w [] J (X0 Bxb)
theorem eq_Match (x y:TMatch) (hg:Enc.gd x) (e:x=y:=by rfl):Co 8 [] [ag x,ag y] [] (B (decide (x=y))):=by
 subst e
 obtain⟨g_Level,g_Seed,g_Delay,g_Scripts,g_Peers,g_Wires,g_Paces,g_Acks,g_Clock,g_Watchers,g_Lines,g_Alarms,g_Bad⟩:=hg
 have hc_Level:=eq_Level x.Level x.Level g_Level
 rw[Gqb rfl] at hc_Level
 have k_Seed:decide (x.Seed≠x.Seed)=false:=Aqd
 have k_Delay:decide (x.Delay≠x.Delay)=false:=Aqd
 have hc_Scripts:=eq_IntSS x.Scripts x.Scripts g_Scripts
 rw[Gqb rfl] at hc_Scripts
 have hc_Peers:=eq_PeerS x.Peers x.Peers g_Peers
 rw[Gqb rfl] at hc_Peers
 have hc_Wires:=eq_WireSS x.Wires x.Wires g_Wires
 rw[Gqb rfl] at hc_Wires
 have hc_Paces:=eq_PaceSS x.Paces x.Paces g_Paces
 rw[Gqb rfl] at hc_Paces
 have hc_Acks:=eq_IntSS x.Acks x.Acks g_Acks
 rw[Gqb rfl] at hc_Acks
 have k_Clock:decide (x.Clock≠x.Clock)=false:=Aqd
 have hc_Watchers:=eq_SpectatorS x.Watchers x.Watchers g_Watchers
 rw[Gqb rfl] at hc_Watchers
 have hc_Lines:=eq_WireS x.Lines x.Lines g_Lines
 rw[Gqb rfl] at hc_Lines
 have hc_Alarms:=eq_AlarmS x.Alarms x.Alarms g_Alarms
 rw[Gqb rfl] at hc_Alarms
 have k_Bad:decide (x.Bad≠x.Bad)=false:=Aqd
 refine Con.o func8 ntmps8 fun E=>?_;refine Wz [43,131,16,56,154] ?_;refine kc0 hc_Level ?_;refine Wz [6,99,22,99,22,99] ?_;refine kc0 hc_Scripts ?_;refine Wz [6,99] ?_;refine kc0 hc_Peers ?_;refine Wz [6,99] ?_;refine kc0 hc_Wires ?_;refine Wz [6,99] ?_;refine kc0 hc_Paces ?_;refine Wz [6,99] ?_;refine kc0 hc_Acks ?_;refine Wz [6,99,22,99] ?_;refine kc0 hc_Watchers ?_;refine Wz [6,99] ?_;refine kc0 hc_Lines ?_;refine Wz [6,99] ?_;refine kc0 hc_Alarms ?_;refine Wz [6,99,22,28,101] ?_
 exact Bzl
end
section
open Tryz
open Go.RowKit

theorem law_PlayPeer (x:TMatch) (i:Int) (g_x:Enc.gd x) (g_i:Enc.gd i):Co 3 [] [ag x,ai i] [] (B true):=by
 have hz:=sz_Match x (1048576) g_x Aqa Aqa 
 by_cases n_x:(1048576:Int)<Enc.wt x
 ·rw[Ub n_x] at hz
  refine Con.o func3 ntmps3 fun E=>?_;refine Wz [96,23,7,0] ?_;refine kc0 hz ?_;refine Wz [40,289,115] ?_
  exact Bzh
 rw[Uc Aqa] at hz
 have hb:decide ((1048576:Int)-Enc.wt x<0)=false:=Gqa Aqa 
 have ht:=to_Match x Aqa 
 have hq:=eq_Match x x g_x
 rw[Gqb rfl] at hq
 have hmi:MatchIn x:=⟨g_x,Aqa⟩
 have hsp:=S_PlayPeer x i hmi
 have hip:=I_PlayPeer x i hmi
 obtain⟨g_y,w_y⟩:=playV_in (i:=i) g_x Aqa 
 generalize playV x i=y at hsp hip g_y w_y
 have hq1:=eq_Match y y g_y
 rw[Gqb rfl] at hq1
 obtain⟨k1,k2⟩:=nM_le x 1
 obtain⟨k3,k4⟩:=nM_le y 1
 have hm_x:=L_mkMatch x 1 g_x Aqa Aqa 
 have hm_y:=L_mkMatch y 1 g_y Aqa Aqa 
 have hh:=L_hdMatch y 1 g_y Aqa Aqa 
 have hk1:decide (n9M x 1<0)=false:=Gqa Aqa 
 have hk2:decide (n9M y 1<0)=false:=Gqa Aqa 
 refine Con.o func3 ntmps3 fun E=>?_;refine Wz [96,23,7,0] ?_;refine kc0 hz ?_;refine Wz [126,7] ?_;refine kc1 ht ?_;refine AL.kp [1,0,2,1] [(19,.o (.ag (mC x 1)))] 10 [(0,.box (Aqi x))] ?_;refine z0 J ?_;refine kc1 hsp ?_;refine AL.kr [1,0,2,1] [(21,.o (.ag (mC y 1)))] [0,10,11,12,13,14,15,16,17,18] [(0,.box (Aqi x))] ?_;refine Wz [82,47] ?_;refine AL.kp [1,0,2,1,6,11] [] 11 [(0,.box (Aqi x)),(10,.box (mC y 1))] ?_;refine Wz [1,7] ?_;refine kc1 ht ?_;refine AL.kp [1,0,2,1,6,11] [(23,.o (.ag (mC x 11)))] 20 [(0,.box (Aqi x)),(10,.box (mC y 1))] ?_;refine Wz [82,47] ?_;refine AL.kp [1,0,2,1,6,11,7,21] [] 21 [(0,.box (Aqi x)),(10,.box (mC y 1)),(20,.box (mC x 11))] ?_;refine Wz [1,7,0] ?_;refine kc1 hip ?_;refine AL.kp [1,0,2,1,6,11,7,21] [(26,.o (.ag (mC y 21)))] 30 [(0,.box (Aqi x)),(10,.box (mC y 1)),(20,.box (mC x 11))] ?_;refine Wz [82,47] ?_;refine AL.kp [1,0,2,1,6,11,7,21,8,31] [] 31 [(0,.box (Aqi x)),(10,.box (mC y 1)),(20,.box (mC x 11)),(30,.box (mC y 21))] ?_;refine Wz [1,4,7,85] ?_;refine kc0 hq1 ?_;refine Wz [6,135,4] ?_;refine AWP.kp [1,0,2,1,6,11,7,21,8,31] [] 31 [(0,.box (Aqi x)),(10,.box (mC y 1)),(20,.box (mC x 11)),(30,.box (mC y 21))] ?_;refine Xi [[],[],[1],[0,1,2],(u9 4)] (tt [[],[],[32,1],[31,3],[31,4]]) [[32,33],[31],[31],[],[]] J ?_;refine Wz [136,136] ?_;refine Uq (Kr J J (ht) J J J) J ?_;refine Uq (Qj J J (hq) J) J ?_;refine Wz [142,12,1] ?_;refine AWP.kp [1,0,2,1,6,11,7,21,8,31,35,0] [] 31 [(0,.box (Aqi x)),(10,.box (mC y 1)),(20,.box (mC x 11)),(30,.box (mC y 21))] ?_;refine Wz [90,42,23,7,0] ?_;refine Xd (lo := [_,_,_,_,_,_,_,_,_]) (gs := [(0,.ag (mC x 0))]) (lo' := [_,_,_,_,_,_,_,_,_]) (new := []) [11,12,13,14,15,16,17,18,19] [(0,0,Aqk 0),(0,3,Aqk 1),(0,4,Aqk 2),(0,5,Aqk 3),(0,6,Aqk 4),(0,7,Aqk 5),(0,9,Aqk 6),(0,10,Aqk 7),(0,11,Aqk 8)] (hm_x) J J J J J J J J J J J J J J J J J ?_;refine AL.kr [1,0,2,1,6,11,8,21,38,0] [] [0,1,2,3,4,5,6,7,8,9,10,21,22,23,24,25,26,27,28,29,30] [(0,.box (Aqi x)),(10,.box (mC y 1)),(30,.box (mC y 11))] ?_;refine Wz [143,21,85,2,85,2] ?_;refine kc0 hq1 ?_;refine Wz [2,6,5,28,23,7,0] ?_;refine Xd (lo := [_,_,_,_,_,_,_,_,_]) (gs := [(0,.ag (mC y 0))]) (lo' := [_,_,_,_,_,_,_,_,_]) (new := []) [11,12,13,14,15,16,17,18,19] [(0,0,Aqk 0),(0,3,Aqk 1),(0,4,Aqk 2),(0,5,Aqk 3),(0,6,Aqk 4),(0,7,Aqk 5),(0,9,Aqk 6),(0,10,Aqk 7),(0,11,Aqk 8)] (hm_y) J J J J J J J J J J J J J J J J J ?_;refine AL.kp [1,0,2,1,6,11,8,21,49,0] [] 21 [(0,.box (Aqi x)),(10,.box (mC y 1)),(20,.box (mC y 11))] ?_;refine Wz [8,23,7,0] ?_;refine kc0 hh ?_;refine Wz [126,15,124,28,7] ?_;refine kc1 ht ?_;refine AL.kp [1,0,2,1,6,11,8,21,10,0] [(59,.o (.ag (mC x 21)))] 30 [(0,.box (Aqi x)),(10,.box (mC y 1)),(20,.box (mC y 11))] ?_;refine z0 J ?_;refine kc1 hip ?_;refine AL.kr [1,0,2,1,6,11,8,21,10,0] [(61,.o (.ag (mC y 21)))] [0,1,2,3,4,5,6,7,8,9,10,11,12,13,14,15,16,17,18,19,20,30,31,32,33,34,35,36,37,38] [(0,.box (Aqi x)),(10,.box (mC y 1)),(20,.box (mC y 11))] ?_;refine Wz [82,47] ?_;refine AL.kp [1,0,2,1,6,11,8,21,10,0,12,31] [] 31 [(0,.box (Aqi x)),(10,.box (mC y 1)),(20,.box (mC y 11)),(30,.box (mC y 21))] ?_;refine Wz [1,4,7,85] ?_;refine kc0 hq1 ?_;refine Wz [6,28,23,7,0] ?_;refine kc0 hh ?_;refine Wz [126,15,124,28,101] ?_
 exact Bzh
end
section
open Go.ChangeShapes Go.WideShapes Go.ChangeAt Go.RowKit

def RL (w:World) (ts:List T) (cs:List Value):Prop:=∀ (j:Nat) (t:T) (u:Value),ts[j]? = some t→cs[j]? = some u→RO w (fun _=>True) t u
theorem RL.nil {w:World} {cs:List Value}:RL w [] cs:=fun _ _ _ h=>by simp at h
theorem RL.app {w:World} {ts us:List T} {cs:List Value} {o n:Nat} (h1:RL w ts ((cs.drop o).take n)) (hn:ts.length=n) (h2:RL w us (cs.drop (o+n))):RL w (ts++us) (cs.drop o):=fun j t u h3 h4=>by
 rcases Gqr j ts.length with hj | hj
 ·rw[Gq2 hj] at h3
  exact h1 j t u h3 (by rw[Gxh,if_pos Aqa]; exact h4)
 ·rw[Gq3 hj] at h3
  refine h2 (j-ts.length) t u h3 ?_
  rw[Gq7] at h4 ⊢
  rw[←h4]
  congr 1
  omega
theorem Vw {P:Program} {t tt:TypeId} {fs:Array Field} {f:Field} {α:Type} [Enc α] {H:Type} {enc:TypeId×Value→H} {w:World} {spare:Nat→Bool} {held:Bool} {fuel:Nat} {cs:List Value} {x:DataW H×List MemPlace}
  (ht:P.underlying t=some (.struct fs)) (h:DataW.trod enc P w 0 spare held fuel t cs=some x) (i:Nat) (hf:fs[i]? = some f) (hty:f.type=tt) [hα:RdOf P tt α] {o:Nat} (ho:f.offset=o) :
  ∃ y:α,Enc.gd y∧RL w (Enc.e y) ((cs.drop o).take (Enc.k α)):=by
 obtain⟨xs,n,_,_,hl,hlen,hfs⟩:=DataW.trod_struct ht h
 have h1:=hfs i f hf
 have hi:i<fs.size:=by
  rcases Gqr i fs.size with h2 | h2
  ·exact h2
  ·rw[Array.getElem?_eq_none h2] at hf; cases hf
 rw[Gqg Aqa,hty,ho,hα.size] at h1
 obtain⟨y,hg,hr⟩:=hα.of h1
 exact⟨y,hg,hr.2⟩
theorem Vx {P:Program} {t:TypeId} {fs:Array Field} {H:Type} {enc:TypeId×Value→H} {w:World} {spare:Nat→Bool} {held:Bool} {fuel:Nat} {cs:List Value} {x:DataW H×List MemPlace}
  (ht:P.underlying t=some (.struct fs)) (h:DataW.trod enc P w 0 spare held fuel t cs=some x):cs.length=P.cellsOf t:=by
 obtain⟨xs,n,_,_,hl,_⟩:=DataW.trod_struct ht h
 exact hl

instance:RdOf Tryz.prog 3 Int:=rdOf_int Tryz.underlying3 Aqb 
instance:RdOf Tryz.prog 9 ByteArray:=rdOf_string Tryz.underlying9 Aqb 
instance:RdOf Tryz.prog 87 (List Int):=Vs Tryz.underlying87 Aqb 
instance:RdOf Tryz.prog 22 (List ByteArray):=Vs Tryz.underlying22 Aqb 
instance:RdOf Tryz.prog 25 (List (List Int)):=Vs Tryz.underlying25 Aqb 
instance:RdOf Tryz.prog 24 TLevel where
 size:=Aqb
 of {H enc w spare held fuel cs x} h:=by
  obtain⟨y0,g0,r0⟩:=Vw (α:=(List ByteArray)) (tt:=22) Tryz.underlying24 h 0 rfl rfl rfl
  refine⟨⟨y0⟩,g0,?_,?_⟩
  ·rw[Vx Tryz.underlying24 h]; kernel_rfl
  ·exact (RL.app (o:=0) (n:=1) r0 rfl (RL.nil):RL w _ (cs.drop 0))
end
section
open Go.ChangeShapes Go.WideShapes Go.ChangeAt Go.RowKit

instance:RdOf Tryz.prog 247 TBody where
 size:=Aqb
 of {H enc w spare held fuel cs x} h:=by
  obtain⟨y0,g0,r0⟩:=Vw (α:=Int) (tt:=3) Tryz.underlying247 h 0 rfl rfl rfl
  obtain⟨y1,g1,r1⟩:=Vw (α:=Int) (tt:=3) Tryz.underlying247 h 1 rfl rfl rfl
  obtain⟨y2,g2,r2⟩:=Vw (α:=Int) (tt:=3) Tryz.underlying247 h 2 rfl rfl rfl
  obtain⟨y3,g3,r3⟩:=Vw (α:=Int) (tt:=3) Tryz.underlying247 h 3 rfl rfl rfl
  obtain⟨y4,g4,r4⟩:=Vw (α:=Int) (tt:=3) Tryz.underlying247 h 4 rfl rfl rfl
  obtain⟨y5,g5,r5⟩:=Vw (α:=Int) (tt:=3) Tryz.underlying247 h 5 rfl rfl rfl
  obtain⟨y6,g6,r6⟩:=Vw (α:=Int) (tt:=3) Tryz.underlying247 h 6 rfl rfl rfl
  obtain⟨y7,g7,r7⟩:=Vw (α:=Int) (tt:=3) Tryz.underlying247 h 7 rfl rfl rfl
  obtain⟨y8,g8,r8⟩:=Vw (α:=Int) (tt:=3) Tryz.underlying247 h 8 rfl rfl rfl
  refine⟨⟨y0,y1,y2,y3,y4,y5,y6,y7,y8⟩,⟨g0,g1,g2,g3,g4,g5,g6,g7,g8⟩,?_,?_⟩
  ·rw[Vx Tryz.underlying247 h]; kernel_rfl
  ·exact (RL.app (o:=0) (n:=1) r0 rfl (RL.app (o:=1) (n:=1) r1 rfl (RL.app (o:=2) (n:=1) r2 rfl (RL.app (o:=3) (n:=1) r3 rfl (RL.app (o:=4) (n:=1) r4 rfl (RL.app (o:=5) (n:=1) r5 rfl (RL.app (o:=6) (n:=1) r6 rfl (RL.app (o:=7) (n:=1) r7 rfl (RL.app (o:=8) (n:=1) r8 rfl (RL.nil))))))))):RL w _ (cs.drop 0))
instance:RdOf Tryz.prog 90 (List TBody):=Vs Tryz.underlying90 Aqb 
instance:RdOf Tryz.prog 92 TWorld where
 size:=Aqb
 of {H enc w spare held fuel cs x} h:=by
  obtain⟨y0,g0,r0⟩:=Vw (α:=TLevel) (tt:=24) Tryz.underlying92 h 0 rfl rfl rfl
  obtain⟨y1,g1,r1⟩:=Vw (α:=Int) (tt:=3) Tryz.underlying92 h 1 rfl rfl rfl
  obtain⟨y2,g2,r2⟩:=Vw (α:=Int) (tt:=3) Tryz.underlying92 h 2 rfl rfl rfl
  obtain⟨y3,g3,r3⟩:=Vw (α:=(List Int)) (tt:=87) Tryz.underlying92 h 3 rfl rfl rfl
  obtain⟨y4,g4,r4⟩:=Vw (α:=(List TBody)) (tt:=90) Tryz.underlying92 h 4 rfl rfl rfl
  refine⟨⟨y0,y1,y2,y3,y4⟩,⟨g0,g1,g2,g3,g4⟩,?_,?_⟩
  ·rw[Vx Tryz.underlying92 h]; kernel_rfl
  ·exact Bjx
end
section
open Go.ChangeShapes Go.WideShapes Go.ChangeAt Go.RowKit

instance:RdOf Tryz.prog 211 TTrack where
 size:=Aqb
 of {H enc w spare held fuel cs x} h:=by
  obtain⟨y0,g0,r0⟩:=Vw (α:=(List Int)) (tt:=87) Tryz.underlying211 h 0 rfl rfl rfl
  refine⟨⟨y0⟩,g0,?_,?_⟩
  ·rw[Vx Tryz.underlying211 h]; kernel_rfl
  ·exact (RL.app (o:=0) (n:=1) r0 rfl (RL.nil):RL w _ (cs.drop 0))
instance:RdOf Tryz.prog 89 (List TTrack):=Vs Tryz.underlying89 Aqb 
instance:RdOf Tryz.prog 214 TSave where
 size:=Aqb
 of {H enc w spare held fuel cs x} h:=by
  obtain⟨y0,g0,r0⟩:=Vw (α:=Int) (tt:=3) Tryz.underlying214 h 0 rfl rfl rfl
  obtain⟨y1,g1,r1⟩:=Vw (α:=ByteArray) (tt:=9) Tryz.underlying214 h 1 rfl rfl rfl
  refine⟨⟨y0,y1⟩,⟨g0,g1⟩,?_,?_⟩
  ·rw[Vx Tryz.underlying214 h]; kernel_rfl
  ·exact Bji
instance:RdOf Tryz.prog 93 (List TSave):=Vs Tryz.underlying93 Aqb 
instance:RdOf Tryz.prog 95 TFault where
 size:=Aqb
 of {H enc w spare held fuel cs x} h:=by
  obtain⟨y0,g0,r0⟩:=Vw (α:=Int) (tt:=3) Tryz.underlying95 h 0 rfl rfl rfl
  obtain⟨y1,g1,r1⟩:=Vw (α:=Int) (tt:=3) Tryz.underlying95 h 1 rfl rfl rfl
  obtain⟨y2,g2,r2⟩:=Vw (α:=Int) (tt:=3) Tryz.underlying95 h 2 rfl rfl rfl
  refine⟨⟨y0,y1,y2⟩,⟨g0,g1,g2⟩,?_,?_⟩
  ·rw[Vx Tryz.underlying95 h]; kernel_rfl
  ·exact (RL.app (o:=0) (n:=1) r0 rfl (RL.app (o:=1) (n:=1) r1 rfl (RL.app (o:=2) (n:=1) r2 rfl (RL.nil))):RL w _ (cs.drop 0))
instance:RdOf Tryz.prog 97 TPeer where
 size:=Aqb
 of {H enc w spare held fuel cs x} h:=by
  obtain⟨y0,g0,r0⟩:=Vw (α:=Int) (tt:=3) Tryz.underlying97 h 0 rfl rfl rfl
  obtain⟨y1,g1,r1⟩:=Vw (α:=Int) (tt:=3) Tryz.underlying97 h 1 rfl rfl rfl
  obtain⟨y2,g2,r2⟩:=Vw (α:=Int) (tt:=3) Tryz.underlying97 h 2 rfl rfl rfl
  obtain⟨y3,g3,r3⟩:=Vw (α:=Int) (tt:=3) Tryz.underlying97 h 3 rfl rfl rfl
  obtain⟨y4,g4,r4⟩:=Vw (α:=(List TTrack)) (tt:=89) Tryz.underlying97 h 4 rfl rfl rfl
  obtain⟨y5,g5,r5⟩:=Vw (α:=TWorld) (tt:=92) Tryz.underlying97 h 5 rfl rfl rfl
  obtain⟨y6,g6,r6⟩:=Vw (α:=TWorld) (tt:=92) Tryz.underlying97 h 6 rfl rfl rfl
  obtain⟨y7,g7,r7⟩:=Vw (α:=(List (List Int))) (tt:=25) Tryz.underlying97 h 7 rfl rfl rfl
  obtain⟨y8,g8,r8⟩:=Vw (α:=(List TSave)) (tt:=93) Tryz.underlying97 h 8 rfl rfl rfl
  obtain⟨y9,g9,r9⟩:=Vw (α:=(List Int)) (tt:=87) Tryz.underlying97 h 9 rfl rfl rfl
  obtain⟨y10,g10,r10⟩:=Vw (α:=TFault) (tt:=95) Tryz.underlying97 h 10 rfl rfl rfl
  obtain⟨y11,g11,r11⟩:=Vw (α:=Int) (tt:=3) Tryz.underlying97 h 11 rfl rfl rfl
  obtain⟨y12,g12,r12⟩:=Vw (α:=Int) (tt:=3) Tryz.underlying97 h 12 rfl rfl rfl
  refine⟨⟨y0,y1,y2,y3,y4,y5,y6,y7,y8,y9,y10,y11,y12⟩,⟨g0,g1,g2,g3,g4,g5,g6,g7,g8,g9,g10,g11,g12⟩,?_,?_⟩
  ·rw[Vx Tryz.underlying97 h]; kernel_rfl
  ·exact (RL.app (o:=0) (n:=1) r0 rfl (RL.app (o:=1) (n:=1) r1 rfl (RL.app (o:=2) (n:=1) r2 rfl (RL.app (o:=3) (n:=1) r3 rfl (RL.app (o:=4) (n:=1) r4 rfl (RL.app (o:=5) (n:=5) r5 rfl (RL.app (o:=10) (n:=5) r6 rfl (RL.app (o:=15) (n:=1) r7 rfl (RL.app (o:=16) (n:=1) r8 rfl (RL.app (o:=17) (n:=1) r9 rfl (RL.app (o:=18) (n:=3) r10 rfl (RL.app (o:=21) (n:=1) r11 rfl (RL.app (o:=22) (n:=1) r12 rfl (RL.nil))))))))))))):RL w _ (cs.drop 0))
end
end Go.Proofs.YtalaljeokcpfnaaGreat
