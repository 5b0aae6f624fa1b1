/-
  Rules, data and contracts of functions: part 21 of the proof.
  Conditions: those that each theorem names.
-/
import Derived.Test.YtalaljeokcpfnaaGreatDDPlayRowk19
set_option linter.unusedVariables false
set_option linter.unusedSimpArgs false
set_option maxRecDepth 8000
set_option maxHeartbeats 8000000
namespace Go.Proofs.YtalaljeokcpfnaaGreat
section
open Tryz
open Go.RowKit

theorem to_Peer (x:TPeer) (hg:Enc.wt x≤1048576):Co 83 [] [ag x] [.row 1 (els x.Tracks),.row 1 (els x.Base.Level.Rows),.row 1 (els x.Base.Scores),.row 9 (els x.Base.Bodies),.row 1 (els x.Now.Level.Rows),.row 1 (els x.Now.Scores),.row 9 (els x.Now.Bodies),.row 1 (els x.Used),.row 2 (els x.Saves),.row 1 (els x.Sums)] (.o (.ag [Aqh x.Me,Aqh x.Delay,Aqh x.Ahead,Aqh x.Seed,Aqk 0,Aqk 1,Aqh x.Base.Tick,Aqh x.Base.Seed,Aqk 2,Aqk 3,Aqk 4,Aqh x.Now.Tick,Aqh x.Now.Seed,Aqk 5,Aqk 6,Aqk 7,Aqk 8,Aqk 9,Aqh x.Fault.Tick,Aqh x.Fault.Player,Aqh x.Fault.Add,Aqh x.Rolls,Aqh x.Again])):=by
 have hw:Enc.wt x=Enc.wt x.Tracks+Enc.wt x.Base+Enc.wt x.Now+Enc.wt x.Used+Enc.wt x.Saves+Enc.wt x.Sums+Enc.wt x.Fault:=rfl
 refine Con.o func83 ntmps83 fun E=>?_;refine Wz [59,1,3,82,1,18,98,98,98,98] ?_;refine AL.kp [1,1,2,2,3,3,17,0] [] 3 [(0,.box (Aqi x)),(1,.box [Aqh 0,Aqh 0,Aqh 0,Aqh 0,Aqj,Aqj,Aqh 0,Aqh 0,Aqj,Aqj,Aqj,Aqh 0,Aqh 0,Aqj,Aqj,Aqj,Aqj,Aqj,Aqh 0,Aqh 0,Aqh 0,Aqh 0,Aqh 0]),(2,.box [Aqh x.Me,Aqh x.Delay,Aqh x.Ahead,Aqh x.Seed,Aqj,Aqj,Aqh 0,Aqh 0,Aqj,Aqj,Aqj,Aqh 0,Aqh 0,Aqj,Aqj,Aqj,Aqj,Aqj,Aqh 0,Aqh 0,Aqh 0,Aqh 0,Aqh 0])] ?_;refine kc1 (to_TrackS x.Tracks Aqa) ?_;refine Wz [52,56] ?_;refine AL.kp [1,1,2,2,3,3] [(21,.o (.ag ((Enc.e x.Base).map (V1.rd []))))] 4 [(0,.box (Aqi x)),(1,.box [Aqh 0,Aqh 0,Aqh 0,Aqh 0,Aqj,Aqj,Aqh 0,Aqh 0,Aqj,Aqj,Aqj,Aqh 0,Aqh 0,Aqj,Aqj,Aqj,Aqj,Aqj,Aqh 0,Aqh 0,Aqh 0,Aqh 0,Aqh 0]),(2,.box [Aqh x.Me,Aqh x.Delay,Aqh x.Ahead,Aqh x.Seed,Aqk 3,Aqj,Aqh 0,Aqh 0,Aqj,Aqj,Aqj,Aqh 0,Aqh 0,Aqj,Aqj,Aqj,Aqj,Aqj,Aqh 0,Aqh 0,Aqh 0,Aqh 0,Aqh 0])] ?_;refine kc1 (to_World x.Base Aqa) ?_;refine Wz [79,39,56] ?_;refine AL.kp [1,1,2,2,3,3] [(25,.o (.ag ((Enc.e x.Now).map (V1.rd []))))] 7 [(0,.box (Aqi x)),(1,.box [Aqh 0,Aqh 0,Aqh 0,Aqh 0,Aqj,Aqj,Aqh 0,Aqh 0,Aqj,Aqj,Aqj,Aqh 0,Aqh 0,Aqj,Aqj,Aqj,Aqj,Aqj,Aqh 0,Aqh 0,Aqh 0,Aqh 0,Aqh 0]),(2,.box [Aqh x.Me,Aqh x.Delay,Aqh x.Ahead,Aqh x.Seed,Aqk 3,Aqk 4,Aqh x.Base.Tick,Aqh x.Base.Seed,Aqk 5,Aqk 6,Aqj,Aqh 0,Aqh 0,Aqj,Aqj,Aqj,Aqj,Aqj,Aqh 0,Aqh 0,Aqh 0,Aqh 0,Aqh 0])] ?_;refine kc1 (to_World x.Now Aqa) ?_;refine Wz [79,39,18] ?_;refine AL.kp [1,1,2,2,3,3,29,0] [] 10 [(0,.box (Aqi x)),(1,.box [Aqh 0,Aqh 0,Aqh 0,Aqh 0,Aqj,Aqj,Aqh 0,Aqh 0,Aqj,Aqj,Aqj,Aqh 0,Aqh 0,Aqj,Aqj,Aqj,Aqj,Aqj,Aqh 0,Aqh 0,Aqh 0,Aqh 0,Aqh 0]),(2,.box [Aqh x.Me,Aqh x.Delay,Aqh x.Ahead,Aqh x.Seed,Aqk 3,Aqk 4,Aqh x.Base.Tick,Aqh x.Base.Seed,Aqk 5,Aqk 6,Aqk 7,Aqh x.Now.Tick,Aqh x.Now.Seed,Aqk 8,Aqk 9,Aqj,Aqj,Aqj,Aqh 0,Aqh 0,Aqh 0,Aqh 0,Aqh 0])] ?_;refine kc1 (to_IntSS x.Used Aqa) ?_;refine Wz [98] ?_;refine AL.kp [1,1,2,2,3,3,33,0] [] 11 [(0,.box (Aqi x)),(1,.box [Aqh 0,Aqh 0,Aqh 0,Aqh 0,Aqj,Aqj,Aqh 0,Aqh 0,Aqj,Aqj,Aqj,Aqh 0,Aqh 0,Aqj,Aqj,Aqj,Aqj,Aqj,Aqh 0,Aqh 0,Aqh 0,Aqh 0,Aqh 0]),(2,.box [Aqh x.Me,Aqh x.Delay,Aqh x.Ahead,Aqh x.Seed,Aqk 3,Aqk 4,Aqh x.Base.Tick,Aqh x.Base.Seed,Aqk 5,Aqk 6,Aqk 7,Aqh x.Now.Tick,Aqh x.Now.Seed,Aqk 8,Aqk 9,Aqk 10,Aqj,Aqj,Aqh 0,Aqh 0,Aqh 0,Aqh 0,Aqh 0])] ?_;refine kc1 (to_SaveS x.Saves Aqa) ?_;refine Wz [98] ?_;refine AL.kp [1,1,2,2,3,3,37,0] [] 12 [(0,.box (Aqi x)),(1,.box [Aqh 0,Aqh 0,Aqh 0,Aqh 0,Aqj,Aqj,Aqh 0,Aqh 0,Aqj,Aqj,Aqj,Aqh 0,Aqh 0,Aqj,Aqj,Aqj,Aqj,Aqj,Aqh 0,Aqh 0,Aqh 0,Aqh 0,Aqh 0]),(2,.box [Aqh x.Me,Aqh x.Delay,Aqh x.Ahead,Aqh x.Seed,Aqk 3,Aqk 4,Aqh x.Base.Tick,Aqh x.Base.Seed,Aqk 5,Aqk 6,Aqk 7,Aqh x.Now.Tick,Aqh x.Now.Seed,Aqk 8,Aqk 9,Aqk 10,Aqk 11,Aqj,Aqh 0,Aqh 0,Aqh 0,Aqh 0,Aqh 0])] ?_;refine kc1 (to_IntS x.Sums Aqa) ?_;refine Wz [52,56] ?_;refine AL.kp [1,1,2,2,3,3] [(41,.o (.ag ((Enc.e x.Fault).map (V1.rd []))))] 13 [(0,.box (Aqi x)),(1,.box [Aqh 0,Aqh 0,Aqh 0,Aqh 0,Aqj,Aqj,Aqh 0,Aqh 0,Aqj,Aqj,Aqj,Aqh 0,Aqh 0,Aqj,Aqj,Aqj,Aqj,Aqj,Aqh 0,Aqh 0,Aqh 0,Aqh 0,Aqh 0]),(2,.box [Aqh x.Me,Aqh x.Delay,Aqh x.Ahead,Aqh x.Seed,Aqk 3,Aqk 4,Aqh x.Base.Tick,Aqh x.Base.Seed,Aqk 5,Aqk 6,Aqk 7,Aqh x.Now.Tick,Aqh x.Now.Seed,Aqk 8,Aqk 9,Aqk 10,Aqk 11,Aqk 12,Aqh 0,Aqh 0,Aqh 0,Aqh 0,Aqh 0])] ?_;refine kc1 (to_Fault x.Fault Aqa) ?_;refine AL.kp [1,1,2,2,3,3] [(42,.o (.ag ((Enc.e x.Fault).map (V1.rd []))))] 13 [(0,.box (Aqi x)),(1,.box [Aqh 0,Aqh 0,Aqh 0,Aqh 0,Aqj,Aqj,Aqh 0,Aqh 0,Aqj,Aqj,Aqj,Aqh 0,Aqh 0,Aqj,Aqj,Aqj,Aqj,Aqj,Aqh 0,Aqh 0,Aqh 0,Aqh 0,Aqh 0]),(2,.box [Aqh x.Me,Aqh x.Delay,Aqh x.Ahead,Aqh x.Seed,Aqk 3,Aqk 4,Aqh x.Base.Tick,Aqh x.Base.Seed,Aqk 5,Aqk 6,Aqk 7,Aqh x.Now.Tick,Aqh x.Now.Seed,Aqk 8,Aqk 9,Aqk 10,Aqk 11,Aqk 12,Aqh 0,Aqh 0,Aqh 0,Aqh 0,Aqh 0])] ?_;refine Wz [79,39,18,98,52,3] ?_;refine AL.kp [2,2,3,3] [] 13 [(0,.box (Aqi x)),(1,.box [Aqh 0,Aqh 0,Aqh 0,Aqh 0,Aqj,Aqj,Aqh 0,Aqh 0,Aqj,Aqj,Aqj,Aqh 0,Aqh 0,Aqj,Aqj,Aqj,Aqj,Aqj,Aqh 0,Aqh 0,Aqh 0,Aqh 0,Aqh 0]),(2,.box [Aqh x.Me,Aqh x.Delay,Aqh x.Ahead,Aqh x.Seed,Aqk 3,Aqk 4,Aqh x.Base.Tick,Aqh x.Base.Seed,Aqk 5,Aqk 6,Aqk 7,Aqh x.Now.Tick,Aqh x.Now.Seed,Aqk 8,Aqk 9,Aqk 10,Aqk 11,Aqk 12,Aqh x.Fault.Tick,Aqh x.Fault.Player,Aqh x.Fault.Add,Aqh x.Rolls,Aqh x.Again])] ?_;refine z4 J J J ?_;refine AL.kp [2,2] [(50,.o (.ag [Aqh x.Me,Aqh x.Delay,Aqh x.Ahead,Aqh x.Seed,Aqk 3,Aqk 4,Aqh x.Base.Tick,Aqh x.Base.Seed,Aqk 5,Aqk 6,Aqk 7,Aqh x.Now.Tick,Aqh x.Now.Seed,Aqk 8,Aqk 9,Aqk 10,Aqk 11,Aqk 12,Aqh x.Fault.Tick,Aqh x.Fault.Player,Aqh x.Fault.Add,Aqh x.Rolls,Aqh x.Again]))] 13 [(0,.box (Aqi x)),(1,.box [Aqh 0,Aqh 0,Aqh 0,Aqh 0,Aqj,Aqj,Aqh 0,Aqh 0,Aqj,Aqj,Aqj,Aqh 0,Aqh 0,Aqj,Aqj,Aqj,Aqj,Aqj,Aqh 0,Aqh 0,Aqh 0,Aqh 0,Aqh 0]),(2,.box [Aqh x.Me,Aqh x.Delay,Aqh x.Ahead,Aqh x.Seed,Aqk 3,Aqk 4,Aqh x.Base.Tick,Aqh x.Base.Seed,Aqk 5,Aqk 6,Aqk 7,Aqh x.Now.Tick,Aqh x.Now.Seed,Aqk 8,Aqk 9,Aqk 10,Aqk 11,Aqk 12,Aqh x.Fault.Tick,Aqh x.Fault.Player,Aqh x.Fault.Add,Aqh x.Rolls,Aqh x.Again])] ?_;refine Qy J J J J J J J J J ?_;refine AL.kp [2,2] [] 13 [(0,.box (Aqi x)),(1,.box [Aqh x.Me,Aqh x.Delay,Aqh x.Ahead,Aqh x.Seed,Aqk 3,Aqk 4,Aqh x.Base.Tick,Aqh x.Base.Seed,Aqk 5,Aqk 6,Aqk 7,Aqh x.Now.Tick,Aqh x.Now.Seed,Aqk 8,Aqk 9,Aqk 10,Aqk 11,Aqk 12,Aqh x.Fault.Tick,Aqh x.Fault.Player,Aqh x.Fault.Add,Aqh x.Rolls,Aqh x.Again]),(2,.box [Aqh x.Me,Aqh x.Delay,Aqh x.Ahead,Aqh x.Seed,Aqk 3,Aqk 4,Aqh x.Base.Tick,Aqh x.Base.Seed,Aqk 5,Aqk 6,Aqk 7,Aqh x.Now.Tick,Aqh x.Now.Seed,Aqk 8,Aqk 9,Aqk 10,Aqk 11,Aqk 12,Aqh x.Fault.Tick,Aqh x.Fault.Player,Aqh x.Fault.Add,Aqh x.Rolls,Aqh x.Again])] ?_;refine Wz [1,73] ?_;refine Xm (cs := [Aqh x.Me,Aqh x.Delay,Aqh x.Ahead,Aqh x.Seed,Aqk 3,Aqk 4,Aqh x.Base.Tick,Aqh x.Base.Seed,Aqk 5,Aqk 6,Aqk 7,Aqh x.Now.Tick,Aqh x.Now.Seed,Aqk 8,Aqk 9,Aqk 10,Aqk 11,Aqk 12,Aqh x.Fault.Tick,Aqh x.Fault.Player,Aqh x.Fault.Add,Aqh x.Rolls,Aqh x.Again]) J J J J ?_
 exact Yh [3,4,5,6,7,8,9,10,11,12] Aqc J Aqb Aqb 
theorem sz_Peer (x:TPeer) (left:Int) (hg:Enc.gd x) (h0:0≤left) (h1:left≤1048576):Co 60 [] [ag x,ai left] [] (I (szr (Enc.wt x) left)):=by
 obtain⟨g_Me,g_Delay,g_Ahead,g_Seed,g_Tracks,g_Base,g_Now,g_Used,g_Saves,g_Sums,g_Fault,g_Rolls,g_Again⟩:=hg
 have hw:Enc.wt x=Enc.wt x.Tracks+Enc.wt x.Base+Enc.wt x.Now+Enc.wt x.Used+Enc.wt x.Saves+Enc.wt x.Sums+Enc.wt x.Fault:=rfl
 have hm1:decide ((-1:Int)<0)=true:=rfl
 have hz_Fault:Enc.wt x.Fault=0:=rfl
 have hc_Tracks:=sz_TrackS x.Tracks (left) g_Tracks Aqa Aqa 
 by_cases n_Tracks:left<Enc.wt x.Tracks
 ·rw[Ub n_Tracks] at hc_Tracks
  refine Con.o func60 ntmps60 fun E=>?_;refine Wz [96,65] ?_;refine kc0 hc_Tracks ?_;refine Wz [143,115] ?_
  exact Bzi
 rw[Uc Aqa] at hc_Tracks
 have hb_Tracks:decide (left-Enc.wt x.Tracks<0)=false:=Gqa Aqa 
 have hc_Base:=sz_World x.Base (left-Enc.wt x.Tracks) g_Base Aqa Aqa 
 by_cases n_Base:left-Enc.wt x.Tracks<Enc.wt x.Base
 ·rw[Ub n_Base] at hc_Base
  refine Con.o func60 ntmps60 fun E=>?_;refine Wz [96,65] ?_;refine kc0 hc_Tracks ?_;refine Wz [126,56,0] ?_;refine kc0 hc_Base ?_;refine Wz [143,115] ?_
  exact Bzi
 rw[Uc Aqa] at hc_Base
 have hb_Base:decide (left-Enc.wt x.Tracks-Enc.wt x.Base<0)=false:=Gqa Aqa 
 have hc_Now:=sz_World x.Now (left-Enc.wt x.Tracks-Enc.wt x.Base) g_Now Aqa Aqa 
 by_cases n_Now:left-Enc.wt x.Tracks-Enc.wt x.Base<Enc.wt x.Now
 ·rw[Ub n_Now] at hc_Now
  refine Con.o func60 ntmps60 fun E=>?_;refine Wz [96,65] ?_;refine kc0 hc_Tracks ?_;refine Wz [126,56,0] ?_;refine kc0 hc_Base ?_;refine Wz [126,56,0] ?_;refine kc0 hc_Now ?_;refine Wz [143,115] ?_
  exact Bzi
 rw[Uc Aqa] at hc_Now
 have hb_Now:decide (left-Enc.wt x.Tracks-Enc.wt x.Base-Enc.wt x.Now<0)=false:=Gqa Aqa 
 have hc_Used:=sz_IntSS x.Used (left-Enc.wt x.Tracks-Enc.wt x.Base-Enc.wt x.Now) g_Used Aqa Aqa 
 by_cases n_Used:left-Enc.wt x.Tracks-Enc.wt x.Base-Enc.wt x.Now<Enc.wt x.Used
 ·rw[Ub n_Used] at hc_Used
  refine Con.o func60 ntmps60 fun E=>?_;refine Wz [96,65] ?_;refine kc0 hc_Tracks ?_;refine Wz [126,56,0] ?_;refine kc0 hc_Base ?_;refine Wz [126,56,0] ?_;refine kc0 hc_Now ?_;refine Wz [70] ?_;refine kc0 hc_Used ?_;refine Wz [143,115] ?_
  exact Bzi
 rw[Uc Aqa] at hc_Used
 have hb_Used:decide (left-Enc.wt x.Tracks-Enc.wt x.Base-Enc.wt x.Now-Enc.wt x.Used<0)=false:=Gqa Aqa 
 have hc_Saves:=sz_SaveS x.Saves (left-Enc.wt x.Tracks-Enc.wt x.Base-Enc.wt x.Now-Enc.wt x.Used) g_Saves Aqa Aqa 
 by_cases n_Saves:left-Enc.wt x.Tracks-Enc.wt x.Base-Enc.wt x.Now-Enc.wt x.Used<Enc.wt x.Saves
 ·rw[Ub n_Saves] at hc_Saves
  refine Con.o func60 ntmps60 fun E=>?_;refine Wz [96,65] ?_;refine kc0 hc_Tracks ?_;refine Wz [126,56,0] ?_;refine kc0 hc_Base ?_;refine Wz [126,56,0] ?_;refine kc0 hc_Now ?_;refine Wz [70] ?_;refine kc0 hc_Used ?_;refine Wz [70] ?_;refine kc0 hc_Saves ?_;refine Wz [143,115] ?_
  exact Bzi
 rw[Uc Aqa] at hc_Saves
 have hb_Saves:decide (left-Enc.wt x.Tracks-Enc.wt x.Base-Enc.wt x.Now-Enc.wt x.Used-Enc.wt x.Saves<0)=false:=Gqa Aqa 
 have hc_Sums:=sz_IntS x.Sums (left-Enc.wt x.Tracks-Enc.wt x.Base-Enc.wt x.Now-Enc.wt x.Used-Enc.wt x.Saves) g_Sums Aqa Aqa 
 by_cases n_Sums:left-Enc.wt x.Tracks-Enc.wt x.Base-Enc.wt x.Now-Enc.wt x.Used-Enc.wt x.Saves<Enc.wt x.Sums
 ·rw[Ub n_Sums] at hc_Sums
  refine Con.o func60 ntmps60 fun E=>?_;refine Wz [96,65] ?_;refine kc0 hc_Tracks ?_;refine Wz [126,56,0] ?_;refine kc0 hc_Base ?_;refine Wz [126,56,0] ?_;refine kc0 hc_Now ?_;refine Wz [70] ?_;refine kc0 hc_Used ?_;refine Wz [70] ?_;refine kc0 hc_Saves ?_;refine Wz [70] ?_;refine kc0 hc_Sums ?_;refine Wz [143,115] ?_
  exact Bzi
 rw[Uc Aqa] at hc_Sums
 have hb_Sums:decide (left-Enc.wt x.Tracks-Enc.wt x.Base-Enc.wt x.Now-Enc.wt x.Used-Enc.wt x.Saves-Enc.wt x.Sums<0)=false:=Gqa Aqa 
 refine Con.o func60 ntmps60 fun E=>?_;refine Wz [96,65] ?_;refine kc0 hc_Tracks ?_;refine Wz [126,56,0] ?_;refine kc0 hc_Base ?_;refine Wz [126,56,0] ?_;refine kc0 hc_Now ?_;refine Wz [70] ?_;refine kc0 hc_Used ?_;refine Wz [70] ?_;refine kc0 hc_Saves ?_;refine Wz [70] ?_;refine kc0 hc_Sums ?_;refine Wz [126,11,36] ?_
 exact E_w [] J (X0 Bxb)
theorem eq_Peer (x y:TPeer) (hg:Enc.gd x) (e:x=y:=by rfl):Co 106 [] [ag x,ag y] [] (B (decide (x=y))):=by
 subst e
 obtain⟨g_Me,g_Delay,g_Ahead,g_Seed,g_Tracks,g_Base,g_Now,g_Used,g_Saves,g_Sums,g_Fault,g_Rolls,g_Again⟩:=hg
 have k_Me:decide (x.Me≠x.Me)=false:=Aqd
 have k_Delay:decide (x.Delay≠x.Delay)=false:=Aqd
 have k_Ahead:decide (x.Ahead≠x.Ahead)=false:=Aqd
 have k_Seed:decide (x.Seed≠x.Seed)=false:=Aqd
 have hc_Tracks:=eq_TrackS x.Tracks x.Tracks g_Tracks
 rw[Gqb rfl] at hc_Tracks
 have hc_Base:=eq_World x.Base x.Base g_Base
 rw[Gqb rfl] at hc_Base
 have hc_Now:=eq_World x.Now x.Now g_Now
 rw[Gqb rfl] at hc_Now
 have hc_Used:=eq_IntSS x.Used x.Used g_Used
 rw[Gqb rfl] at hc_Used
 have hc_Saves:=eq_SaveS x.Saves x.Saves g_Saves
 rw[Gqb rfl] at hc_Saves
 have hc_Sums:=eq_IntS x.Sums x.Sums g_Sums
 rw[Gqb rfl] at hc_Sums
 have hc_Fault:=eq_Fault x.Fault x.Fault g_Fault
 rw[Gqb rfl] at hc_Fault
 have k_Rolls:decide (x.Rolls≠x.Rolls)=false:=Aqd
 have k_Again:decide (x.Again≠x.Again)=false:=Aqd
 refine Con.o func106 ntmps106 fun E=>?_;refine Wz [43,131,16,173,22,99,22,99,22,99,22,99] ?_;refine kc0 hc_Tracks ?_;refine Wz [6,135,56,154] ?_;refine kc0 hc_Base ?_;refine Wz [6,135,56,154] ?_;refine kc0 hc_Now ?_;refine Wz [6,99] ?_;refine kc0 hc_Used ?_;refine Wz [6,99] ?_;refine kc0 hc_Saves ?_;refine Wz [6,99] ?_;refine kc0 hc_Sums ?_;refine Wz [6,135,56,154] ?_;refine kc0 hc_Fault ?_;refine Wz [6,99,22,99,22,28,101] ?_
 exact Bzl
end
section
open Tryz
open Go.RowKit

structure TFlight where
 At:Int
 Data:ByteArray
 deriving DecidableEq
instance:Enc TFlight:=⟨2,Aqa,fun x => [.v (.int .i64 x.At),.v (.string x.Data)],fun _=>rfl,fun x=>Enc.gd x.At∧Enc.gd x.Data,fun x=>Enc.wt x.Data⟩
structure TWire where
 Seed:Int
 Delay:Int
 Jitter:Int
 Loss:Int
 Copies:Int
 Damage:Int
 Now:Int
 Flights:(List TFlight)
 Sent:Int
 Lost:Int
 deriving DecidableEq
instance:Enc TWire:=⟨10,Aqa,fun x => [.v (.int .i64 x.Seed),.v (.int .i64 x.Delay),.v (.int .i64 x.Jitter),.v (.int .i64 x.Loss),.v (.int .i64 x.Copies),.v (.int .i64 x.Damage),.v (.int .i64 x.Now),sl x.Flights,.v (.int .i64 x.Sent),.v (.int .i64 x.Lost)],fun _=>rfl,fun x=>Enc.gd x.Seed∧Enc.gd x.Delay∧Enc.gd x.Jitter∧Enc.gd x.Loss∧Enc.gd x.Copies∧Enc.gd x.Damage∧Enc.gd x.Now∧Enc.gd x.Flights∧Enc.gd x.Sent∧Enc.gd x.Lost,fun x=>Enc.wt x.Flights⟩
structure TPace where
 Newest:Int
 Their:Int
 At:Int
 Trip:Int
 Samples:Int
 deriving DecidableEq
instance:Enc TPace:=⟨5,Aqa,fun x => [.v (.int .i64 x.Newest),.v (.int .i64 x.Their),.v (.int .i64 x.At),.v (.int .i64 x.Trip),.v (.int .i64 x.Samples)],fun _=>rfl,fun x=>Enc.gd x.Newest∧Enc.gd x.Their∧Enc.gd x.At∧Enc.gd x.Trip∧Enc.gd x.Samples,fun x=>0⟩
structure TAlarm where
 Tick:Int
 Parts:(List ByteArray)
 deriving DecidableEq
instance:Enc TAlarm:=⟨2,Aqa,fun x => [.v (.int .i64 x.Tick),sl x.Parts],fun _=>rfl,fun x=>Enc.gd x.Tick∧Enc.gd x.Parts,fun x=>Enc.wt x.Parts⟩
structure TMatch where
 Level:TLevel
 Seed:Int
 Delay:Int
 Scripts:(List (List Int))
 Peers:(List TPeer)
 Wires:(List (List TWire))
 Paces:(List (List TPace))
 Acks:(List (List Int))
 Clock:Int
 Watchers:(List TSpectator)
 Lines:(List TWire)
 Alarms:(List TAlarm)
 Bad:Int
 deriving DecidableEq
instance:Enc TMatch:=⟨13,Aqa,fun x => [sl x.Level.Rows,.v (.int .i64 x.Seed),.v (.int .i64 x.Delay),sl x.Scripts,sl x.Peers,sl x.Wires,sl x.Paces,sl x.Acks,.v (.int .i64 x.Clock),sl x.Watchers,sl x.Lines,sl x.Alarms,.v (.int .i64 x.Bad)],fun _=>rfl,fun x=>Enc.gd x.Level∧Enc.gd x.Seed∧Enc.gd x.Delay∧Enc.gd x.Scripts∧Enc.gd x.Peers∧Enc.gd x.Wires∧Enc.gd x.Paces∧Enc.gd x.Acks∧Enc.gd x.Clock∧Enc.gd x.Watchers∧Enc.gd x.Lines∧Enc.gd x.Alarms∧Enc.gd x.Bad,fun x=>Enc.wt x.Level+Enc.wt x.Scripts+Enc.wt x.Peers+Enc.wt x.Wires+Enc.wt x.Paces+Enc.wt x.Acks+Enc.wt x.Watchers+Enc.wt x.Lines+Enc.wt x.Alarms⟩
theorem sz_Flight (x:TFlight) (left:Int) (hg:Enc.gd x) (h0:0≤left) (h1:left≤1048576):Co 183 [] [ag x,ai left] [] (I (szr (Enc.wt x) left)):=by
 obtain⟨g_At,g_Data⟩:=hg
 have hw:Enc.wt x=Enc.wt x.Data:=rfl
 have hm1:decide ((-1:Int)<0)=true:=rfl
 have hgd_Data:x.Data.size≤9223372036854775807:=g_Data
 have hs_Data:Enc.wt x.Data=x.Data.size:=rfl
 by_cases n_Data:left-(x.Data.size:Int)<0
 ·have hb:decide (left-(x.Data.size:Int)<0)=true:=Gqb n_Data
  refine Con.o func183 ntmps183 fun E=>?_;refine Wz [43,44,31,38,29,143,115] ?_
  exact Bzi
 have hb_Data:decide (left-(x.Data.size:Int)<0)=false:=Gqa n_Data
 refine Con.o func183 ntmps183 fun E=>?_;refine Wz [43,44,31,38,29,126,11,36] ?_
 exact E_w [] J (X0 Bxb)
theorem to_Flight (x:TFlight) (hg:Enc.wt x≤1048576):Co 202 [] [ag x] (ownO (Enc.e x)) (.o (.ag (ownV 0 (Enc.e x)))):=by
 have hw:Enc.wt x=Enc.wt x.Data:=rfl
 refine Con.o func202 ntmps202 fun E=>?_;refine Wz [59,1,3,82,1,18,98,52,7,39,73] ?_
 exact Bzx
theorem eq_Flight (x y:TFlight) (hg:Enc.gd x) (e:x=y:=by rfl):Co 224 [] [ag x,ag y] [] (B (decide (x=y))):=by
 subst e
 obtain⟨g_At,g_Data⟩:=hg
 have k_At:decide (x.At≠x.At)=false:=Aqd
 have k_Data:decide (x.Data≠x.Data)=false:=Aqd
 refine Con.o func224 ntmps224 fun E=>?_;refine Wz [43,131,16,173,22,99,240,28,101] ?_
 exact Bzl
theorem to_Pace (x:TPace) (hg:Enc.wt x≤1048576):Co 150 [] [ag x] (ownO (Enc.e x)) (.o (.ag (ownV 0 (Enc.e x)))):=by
 refine Con.o func150 ntmps150 fun E=>?_;refine Wz [59,1,3,82,1,18,98,98,98,98,52,7,39,73] ?_
 exact Bzx
theorem eq_Pace (x y:TPace) (hg:Enc.gd x) (e:x=y:=by rfl):Co 177 [] [ag x,ag y] [] (B (decide (x=y))):=by
 subst e
 obtain⟨g_Newest,g_Their,g_At,g_Trip,g_Samples⟩:=hg
 have k_Newest:decide (x.Newest≠x.Newest)=false:=Aqd
 have k_Their:decide (x.Their≠x.Their)=false:=Aqd
 have k_At:decide (x.At≠x.At)=false:=Aqd
 have k_Trip:decide (x.Trip≠x.Trip)=false:=Aqd
 have k_Samples:decide (x.Samples≠x.Samples)=false:=Aqd
 refine Con.o func177 ntmps177 fun E=>?_;refine Wz [43,131,16,173,22,99,22,99,22,99,22,99,22,28,101] ?_
 exact Bzl
theorem sz_Alarm (x:TAlarm) (left:Int) (hg:Enc.gd x) (h0:0≤left) (h1:left≤1048576):Co 64 [] [ag x,ai left] [] (I (szr (Enc.wt x) left)):=by
 obtain⟨g_Tick,g_Parts⟩:=hg
 have hw:Enc.wt x=Enc.wt x.Parts:=rfl
 have hm1:decide ((-1:Int)<0)=true:=rfl
 have hc_Parts:=sz_StringS x.Parts (left) g_Parts Aqa Aqa 
 by_cases n_Parts:left<Enc.wt x.Parts
 ·rw[Ub n_Parts] at hc_Parts
  refine Con.o func64 ntmps64 fun E=>?_;refine Wz [96,65] ?_;refine kc0 hc_Parts ?_;refine Wz [143,115] ?_
  exact Bzi
 rw[Uc Aqa] at hc_Parts
 have hb_Parts:decide (left-Enc.wt x.Parts<0)=false:=Gqa Aqa 
 refine Con.o func64 ntmps64 fun E=>?_;refine Wz [96,65] ?_;refine kc0 hc_Parts ?_;refine Wz [126,11,36] ?_
 exact E_w [] J (X0 Bxb)
theorem to_Alarm (x:TAlarm) (hg:Enc.wt x≤1048576):Co 87 [] [ag x] (ownO (Enc.e x)) (.o (.ag (ownV 0 (Enc.e x)))):=by
 have hw:Enc.wt x=Enc.wt x.Parts:=rfl
 refine Con.o func87 ntmps87 fun E=>?_;refine Wz [59,1,3,82,1,18,98] ?_;refine kc1 (to_StringS x.Parts Aqa) ?_;refine Wz [52,7,39,73] ?_
 exact Xm J J J J (Yh [3] Aqc J J J)
theorem eq_Alarm (x y:TAlarm) (hg:Enc.gd x) (e:x=y:=by rfl):Co 110 [] [ag x,ag y] [] (B (decide (x=y))):=by
 subst e
 obtain⟨g_Tick,g_Parts⟩:=hg
 have k_Tick:decide (x.Tick≠x.Tick)=false:=Aqd
 have hc_Parts:=eq_StringS x.Parts x.Parts g_Parts
 rw[Gqb rfl] at hc_Parts
 refine Con.o func110 ntmps110 fun E=>?_;refine Wz [43,131,16,173,22,99] ?_;refine kc0 hc_Parts ?_;refine Wz [6,28,101] ?_
 exact Bzl
end
section
open Tryz
open Go.RowKit

def scriptOk (xs:List Int):Bool:=(decide (1≤xs.length)&&decide (xs.length≤400))&&inOk xs
def scriptIn (xs:List Int) (d t:Int):Int:=if (scriptOk xs=true∧inR d 0 5=true)∧0≤t then (if t<d then 0 else xs.getD ((t-d)%(xs.length:Int)).toNat 0) else -1
theorem script_len {xs:List Int} (h:scriptOk xs=true):1≤xs.length∧xs.length≤400:=by
 unfold scriptOk at h
 simp only[Gqh,decide_eq_true_eq] at h
 exact h.1
theorem script_at {xs:List Int} {d t:Int} (h:scriptOk xs=true) (hd:inR d 0 5=true) (h0:0≤t) (h1:¬t<d):∃ hi:((t-d)%(xs.length:Int)).toNat<xs.length,0≤(t-d)%(xs.length:Int)∧(t-d)%(xs.length:Int)<xs.length∧scriptIn xs d t=xs[((t-d)%(xs.length:Int)).toNat]:=by
 have hl:=script_len h
 have h2:0≤(t-d)%(xs.length:Int):=Int.emod_nonneg _ Aqa 
 have h3:(t-d)%(xs.length:Int)<xs.length:=Int.emod_lt_of_pos _ Aqa 
 have hi:((t-d)%(xs.length:Int)).toNat<xs.length:=Aqa
 refine⟨hi,h2,h3,?_⟩
 rw[scriptIn,if_pos ⟨⟨h,hd⟩,h0⟩,if_neg h1,Gqf,Gqg hi]
 rfl
theorem script_inR {xs:List Int} {n:Nat} (h:n=xs.length):inR (n:Int) 1 400=(decide (1≤xs.length)&&decide (xs.length≤400)):=by
 subst h
 unfold inR
 congr 1 <;> rw[decide_eq_decide] <;> omega
theorem script_no {xs:List Int} {d t:Int} (h:¬((scriptOk xs=true∧inR d 0 5=true)∧0≤t)):scriptIn xs d t = -1:=if_neg h
theorem script_lo {xs:List Int} {d t:Int} (h:scriptOk xs=true) (hd:inR d 0 5=true) (h0:0≤t) (h1:t<d):scriptIn xs d t=0:=by rw[scriptIn,if_pos ⟨⟨h,hd⟩,h0⟩,if_pos h1]
theorem I_scriptOk (xs:List Int) (hn:Enc.gd xs):Co 95 [] [al xs] [] (B (scriptOk xs)):=by
 have hl:=Y7 xs
 refine Con.o func95 ntmps95 fun E=>?_;refine Wz [23,11,25,224,0,171] ?_;refine zx (Qt.grdT J J J (.hit .stop) (fun hgrd=>Vb J J J)) J ?_;refine zx (Qt.grdT J J J (.hit (.hit .stop)) (fun hgrd=>q_leq J J J J)) J ?_;refine Wz [66,0,171] ?_;refine zx (Qt.grdT J J J (.hit .stop) (fun hgrd=>Qj J J (I_inputsOk xs hn) J)) J ?_;refine Wz [66,36] ?_
 exact E_w [] J (Xk (by rw[hl,scriptOk]; congr 2 <;> simp <;> omega))
theorem I_ScriptInput (xs:List Int) (d t:Int) (hn:Enc.gd xs) (ht:I64 t):Co 162 [] [al xs,ai d,ai t] [] (I (scriptIn xs d t)):=by
 have hl:=Y7 xs
 have hx:=hn.1
 obtain⟨ht1,ht2⟩:=ht
 refine Con.o func162 ntmps162 fun E=>?_;refine Wz [95] ?_;refine kc0 (I_scriptOk xs hn) ?_;refine Wz [6,103] ?_;refine zx (Qt.grdF J J J (.hit .stop) (fun hgrd=>Qj J J (Xy d 0 5) J)) J ?_;refine Wz [207,54,103] ?_;refine zx (Qt.grdF J J J (.hit .stop) (fun hgrd=>Vh J J J J)) J ?_;refine Wz [75] ?_
 refine Xb J (fun h=>?_) (fun h=>?_)
 ·rw[script_no (fun ⟨⟨q1,q2⟩,q3⟩=>by rw[q1,q2] at h; simp at h; omega)]
  refine Wz [69] ?_
  exact Bzh
 simp only[Gqm,Gq0,decide_eq_false_iff_not] at h
 obtain⟨⟨q1,q2⟩,q3⟩:=h
 have hsl:=script_len q1
 have hd:=Zm.1 q2
 refine Wz [42,15,58] ?_
 refine Xb J (fun h=>?_) (fun h=>?_)
 ·rw[script_lo q1 q2 Aqa (Gqc h)]
  refine Wz [69] ?_
  exact Bzh
 have h9:=Gqd h
 obtain⟨hi,h2,h3,h4⟩:=script_at q1 q2 Aqa (Gqd h)
 have hat:(els xs)[((t-d)%((els xs).length:Int)).toNat]? = some (Enc.e xs[((t-d)%(xs.length:Int)).toNat]):=by rw[hl]; simp[els,hi]
 have h5:0≤(t-d)%((els xs).length:Int)∧(t-d)%((els xs).length:Int)<((els xs).length:Int):=by rw[hl]; exact⟨h2,h3⟩
 rw[h4]
 refine Wz [42,50,29,0,25,167,100,36] ?_
 exact Bzh
theorem S_ScriptInput (xs:List Int) (d t:Int) (hn:Enc.gd xs) (ht:I64 t):Co 70 [] [al xs,ai d,ai t] [] (I (scriptIn xs d t)):=by
 have hl:=Y7 xs
 have hx:=hn.1
 obtain⟨ht1,ht2⟩:=ht
 refine Con.o func70 ntmps70 fun E=>?_;refine Wz [95,25] ?_;refine kc0 (Yg (els xs).length 1 400) ?_;refine Wz [6,103] ?_;refine zx (Qt.grdF J J J (.hit .stop) (fun hgrd=>Qj J J (S_inputsOk xs hn) J)) J ?_;refine Wz [207,54,103] ?_;refine zx (Qt.grdF J J J (.hit .stop) (fun hgrd=>Qj J J (Yg d 0 5) J)) J ?_;refine Wz [207,54,103] ?_;refine zx (Qt.grdF J J J (.hit .stop) (fun hgrd=>Vh J J J J)) J ?_;refine Wz [75] ?_
 refine Xb J (fun h=>?_) (fun h=>?_)
 ·rw[script_no (fun ⟨⟨q1,q2⟩,q3⟩=>by rw[script_inR hl] at h; unfold scriptOk at q1; rw[Gqh] at q1; rw[q1.1,q1.2,q2] at h; simp at h; omega)]
  refine Wz [69] ?_
  exact Bzh
 simp only[Gqm,Gq0,decide_eq_false_iff_not] at h
 obtain⟨⟨⟨q0,q1⟩,q2⟩,q3⟩:=h
 rw[script_inR hl] at q0
 have q1:scriptOk xs=true:=by unfold scriptOk; rw[q0,q1]; rfl
 have hsl:=script_len q1
 have hd:=Zm.1 q2
 refine Wz [42,15,58] ?_
 refine Xb J (fun h=>?_) (fun h=>?_)
 ·rw[script_lo q1 q2 Aqa (Gqc h)]
  refine Wz [69] ?_
  exact Bzh
 have h9:=Gqd h
 obtain⟨hi,h2,h3,h4⟩:=script_at q1 q2 Aqa (Gqd h)
 have hat:(els xs)[((t-d)%((els xs).length:Int)).toNat]? = some (Enc.e xs[((t-d)%(xs.length:Int)).toNat]):=by rw[hl]; simp[els,hi]
 have h5:0≤(t-d)%((els xs).length:Int)∧(t-d)%((els xs).length:Int)<((els xs).length:Int):=by rw[hl]; exact⟨h2,h3⟩
 rw[h4]
 refine Wz [42,50,29,0,25,167,100,36] ?_
 exact Bzh
def trueIn (m:TMatch) (p t:Int):Int:=if h:0≤p∧p<m.Scripts.length then scriptIn (m.Scripts[p.toNat]' Aqa) m.Delay t else -1
theorem I_TrueInput (m:TMatch) (p t:Int) (hg:Enc.gd m) (ht:I64 t):Co 101 [] [ag m,ai p,ai t] [] (I (trueIn m p t)):=by
 have va_:=@func101; have vb_:=@ntmps101; have vc_:=@I_ScriptInput; exact Bqk
theorem S_TrueInput (m:TMatch) (p t:Int) (hg:Enc.gd m) (ht:I64 t):Co 78 [] [ag m,ai p,ai t] [] (I (trueIn m p t)):=by
 have va_:=@func78; have vb_:=@ntmps78; have vc_:=@S_ScriptInput; exact Bqk
end
section
open Go.RowKit

def flightOk (f:TFlight):Bool:=inR f.At 0 1100000&&inR (f.Data.size:Int) 1 20000
def WireP (w:TWire):Prop :=
 (inR w.Seed 0 65535=true∧inR w.Delay 0 12=true∧inR w.Jitter 0 12=true) ∧
 (inR w.Loss 0 100=true∧inR w.Copies 0 100=true∧inR w.Damage 0 100=true) ∧
 (inR w.Now 0 1000000=true∧inR w.Sent 0 1000000=true∧inR w.Lost 0 1000000=true) ∧
 w.Flights.length≤200∧w.Flights.all flightOk=true
instance (w:TWire):Decidable (WireP w):=by unfold WireP; infer_instance
def wireOk (w:TWire):Bool:=decide (WireP w)
def paceOk (q:TPace):Bool:=(((inR q.Newest 0 1000001&&inR q.Their 0 1000001)&&inR q.At 0 1000001)&&inR q.Trip 0 1000001)&&inR q.Samples 0 1000001
noncomputable def peerIn (m:TMatch) (i:Nat) (p:TPeer):Bool :=
 ((peerOk p&&decide (p.Me=(i:Int)))&&decide ((p.Tracks.length:Int)=(m.Scripts.length:Int)))&&((decide (p.Base.Level=m.Level)&&decide (p.Seed=m.Seed))&&decide (p.Delay=m.Delay))
def PeersP (m:TMatch):Prop:=m.Peers.length=m.Scripts.length∧∀ (i:Nat) p,m.Peers[i]? = some p→peerIn m i p=true
def LinkLen (m:TMatch) (i:Nat):Prop:=∀ ws qs ks,m.Wires[i]? = some ws→m.Paces[i]? = some qs→m.Acks[i]? = some ks→ws.length=m.Peers.length∧qs.length=m.Peers.length∧ks.length=m.Peers.length
def LinkAt (m:TMatch) (i j:Nat):Prop:=∀ ws qs ks p w q a,m.Wires[i]? = some ws→m.Paces[i]? = some qs→m.Acks[i]? = some ks→m.Peers[i]? = some p→ws[j]? = some w→qs[j]? = some q→ks[j]? = some a→wireOk w=true∧paceOk q=true∧inR a 0 (lenAt p.Tracks i:Nat)=true
def LinksP (m:TMatch):Prop :=
 (m.Wires.length=m.Peers.length∧m.Paces.length=m.Peers.length∧m.Acks.length=m.Peers.length) ∧
 ∀ i,i<m.Peers.length→LinkLen m i∧∀ j:Nat,j<m.Peers.length→LinkAt m i j
noncomputable def watcherIn (m:TMatch) (s:TSpectator) (l:TWire):Bool :=
 (wireOk l&&worldOk s.World)&&(decide (s.World.Level=m.Level)&&decide ((s.World.Scores.length:Int)=(m.Scripts.length:Int)))
def WatchersP (m:TMatch):Prop:=(m.Watchers.length≤3∧m.Lines.length=m.Watchers.length)∧∀ (k:Nat) s l,m.Watchers[k]? = some s→m.Lines[k]? = some l→watcherIn m s l=true
def HeadP (m:TMatch):Prop:=levelOk m.Level=true∧inR m.Seed 0 65535=true∧inR m.Delay 0 5=true∧inR m.Clock 0 1000=true∧inR m.Bad 0 1000000=true
def MatchP (m:TMatch):Prop:=HeadP m∧(1≤m.Scripts.length∧m.Scripts.length≤4)∧m.Scripts.all scriptOk=true∧PeersP m∧LinksP m∧WatchersP m
noncomputable def peersM (m:TMatch):Bool:=@decide (PeersP m) (Classical.propDecidable _)
noncomputable def linksM (m:TMatch):Bool:=@decide (LinksP m) (Classical.propDecidable _)
noncomputable def watchersM (m:TMatch):Bool:=@decide (WatchersP m) (Classical.propDecidable _)
noncomputable def matchOk (m:TMatch):Bool:=@decide (MatchP m) (Classical.propDecidable _)
theorem dT {P:Prop} (h:P):@decide P (Classical.propDecidable _)=true:=@decide_eq_true _ (Classical.propDecidable _) h
theorem dF {P:Prop} (h:¬P):@decide P (Classical.propDecidable _)=false:=@decide_eq_false _ (Classical.propDecidable _) h
theorem dS {P:Prop} (h:@decide P (Classical.propDecidable _)=true):P:=@of_decide_eq_true _ (Classical.propDecidable _) h
end
end Go.Proofs.YtalaljeokcpfnaaGreat
