/-
  Rules, data and contracts of functions: part 18 of the proof.
  Conditions: those that each theorem names.
-/
import Derived.Test.YtoecjaohdnoenaaGreatDDJoinRowk16
set_option linter.unusedVariables false
set_option linter.unusedSimpArgs false
set_option maxRecDepth 8000
set_option maxHeartbeats 8000000
namespace Go.Proofs.YtoecjaohdnoenaaGreat
section
open Go.RowKit

structure TFlight where
 At:Int
 Data:ByteArray
 deriving DecidableEq
instance:Enc TFlight:=⟨2,by omega,fun x => [.v (.int .i64 x.At),.v (.string x.Data)],fun _=>rfl,fun x=>Enc.gd x.At∧Enc.gd x.Data,fun x=>Enc.wt x.Data⟩
theorem TFlight.same {x y:TFlight} (h0:x.At=y.At) (h1:x.Data=y.Data):x=y:=by cases x; cases y; simp_all
structure TWire where
 Seed:Int
 Delay:Int
 Jitter:Int
 Loss:Int
 Copies:Int
 Damage:Int
 Now:Int
 Flights:(List TFlight)
 Sent:Int
 Lost:Int
 deriving DecidableEq
instance:Enc TWire:=⟨10,by omega,fun x => [.v (.int .i64 x.Seed),.v (.int .i64 x.Delay),.v (.int .i64 x.Jitter),.v (.int .i64 x.Loss),.v (.int .i64 x.Copies),.v (.int .i64 x.Damage),.v (.int .i64 x.Now),sl x.Flights,.v (.int .i64 x.Sent),.v (.int .i64 x.Lost)],fun _=>rfl,fun x=>Enc.gd x.Seed∧Enc.gd x.Delay∧Enc.gd x.Jitter∧Enc.gd x.Loss∧Enc.gd x.Copies∧Enc.gd x.Damage∧Enc.gd x.Now∧Enc.gd x.Flights∧Enc.gd x.Sent∧Enc.gd x.Lost,fun x=>Enc.wt x.Flights⟩
theorem TWire.same {x y:TWire} (h0:x.Seed=y.Seed) (h1:x.Delay=y.Delay) (h2:x.Jitter=y.Jitter) (h3:x.Loss=y.Loss) (h4:x.Copies=y.Copies) (h5:x.Damage=y.Damage) (h6:x.Now=y.Now) (h7:x.Flights=y.Flights) (h8:x.Sent=y.Sent) (h9:x.Lost=y.Lost):x=y:=by cases x; cases y; simp_all
structure TPace where
 Newest:Int
 Their:Int
 At:Int
 Trip:Int
 Samples:Int
 deriving DecidableEq
instance:Enc TPace:=⟨5,by omega,fun x => [.v (.int .i64 x.Newest),.v (.int .i64 x.Their),.v (.int .i64 x.At),.v (.int .i64 x.Trip),.v (.int .i64 x.Samples)],fun _=>rfl,fun x=>Enc.gd x.Newest∧Enc.gd x.Their∧Enc.gd x.At∧Enc.gd x.Trip∧Enc.gd x.Samples,fun x=>0⟩
theorem TPace.same {x y:TPace} (h0:x.Newest=y.Newest) (h1:x.Their=y.Their) (h2:x.At=y.At) (h3:x.Trip=y.Trip) (h4:x.Samples=y.Samples):x=y:=by cases x; cases y; simp_all
structure TAlarm where
 Tick:Int
 Parts:(List ByteArray)
 deriving DecidableEq
instance:Enc TAlarm:=⟨2,by omega,fun x => [.v (.int .i64 x.Tick),sl x.Parts],fun _=>rfl,fun x=>Enc.gd x.Tick∧Enc.gd x.Parts,fun x=>Enc.wt x.Parts⟩
theorem TAlarm.same {x y:TAlarm} (h0:x.Tick=y.Tick) (h1:x.Parts=y.Parts):x=y:=by cases x; cases y; simp_all
structure TMatch where
 Level:TLevel
 Seed:Int
 Delay:Int
 Scripts:(List (List Int))
 Peers:(List TPeer)
 Wires:(List (List TWire))
 Paces:(List (List TPace))
 Acks:(List (List Int))
 Clock:Int
 Watchers:(List TSpectator)
 Lines:(List TWire)
 Alarms:(List TAlarm)
 Bad:Int
 deriving DecidableEq
instance:Enc TMatch:=⟨13,by omega,fun x => [sl x.Level.Rows,.v (.int .i64 x.Seed),.v (.int .i64 x.Delay),sl x.Scripts,sl x.Peers,sl x.Wires,sl x.Paces,sl x.Acks,.v (.int .i64 x.Clock),sl x.Watchers,sl x.Lines,sl x.Alarms,.v (.int .i64 x.Bad)],fun _=>rfl,fun x=>Enc.gd x.Level∧Enc.gd x.Seed∧Enc.gd x.Delay∧Enc.gd x.Scripts∧Enc.gd x.Peers∧Enc.gd x.Wires∧Enc.gd x.Paces∧Enc.gd x.Acks∧Enc.gd x.Clock∧Enc.gd x.Watchers∧Enc.gd x.Lines∧Enc.gd x.Alarms∧Enc.gd x.Bad,fun x=>Enc.wt x.Level+Enc.wt x.Scripts+Enc.wt x.Peers+Enc.wt x.Wires+Enc.wt x.Paces+Enc.wt x.Acks+Enc.wt x.Watchers+Enc.wt x.Lines+Enc.wt x.Alarms⟩
theorem TMatch.same {x y:TMatch} (h0:x.Level=y.Level) (h1:x.Seed=y.Seed) (h2:x.Delay=y.Delay) (h3:x.Scripts=y.Scripts) (h4:x.Peers=y.Peers) (h5:x.Wires=y.Wires) (h6:x.Paces=y.Paces) (h7:x.Acks=y.Acks) (h8:x.Clock=y.Clock) (h9:x.Watchers=y.Watchers) (h10:x.Lines=y.Lines) (h11:x.Alarms=y.Alarms) (h12:x.Bad=y.Bad):x=y:=by cases x; cases y; simp_all

theorem sz_Flight (x:TFlight) (left:Int) (hg:Enc.gd x) (h0:0≤left) (h1:left≤1048576):Con Tryz.prog 151 [] [ag x,ai left] [] (I (szr (Enc.wt x) left)):=by
 obtain⟨g_At,g_Data⟩:=hg
 have hw:Enc.wt x=Enc.wt x.Data:=rfl
 have hm1:decide ((-1:Int)<0)=true:=rfl
 have hgd_Data:x.Data.size≤9223372036854775807:=g_Data
 have hs_Data:Enc.wt x.Data=x.Data.size:=rfl
 by_cases n_Data:left-(x.Data.size:Int)<0
 ·have hb:decide (left-(x.Data.size:Int)<0)=true:=Gqb n_Data
  refine Con.of Tryz.func151 J Tryz.ntmps151 J (fun E => ?_)
  refine Wz [124,19,18,126,74,80,23] ?_
  exact Xk J J (Xw [] (by decide) J J (Xn (by rw[Kl (by omega)])))
 have hb_Data:decide (left-(x.Data.size:Int)<0)=false:=Gqa n_Data
 refine Con.of Tryz.func151 J Tryz.ntmps151 J (fun E => ?_)
 refine Wz [124,19,18,126,74,101,166] ?_
 exact Xk J J (Xw [] (by decide) J J (Xn (by rw[Km (by omega)]; omega)))
theorem to_Flight (x:TFlight) (hg:Enc.wt x≤1048576):Con Tryz.prog 159 [] [ag x] (ownO (Enc.e x)) (.o (.ag (ownV 0 (Enc.e x)))):=by
 have hw:Enc.wt x=Enc.wt x.Data:=rfl
 refine Con.of Tryz.func159 J Tryz.ntmps159 J (fun E => ?_)
 refine Wz [85,4,1,40,4,41,42,86,45,30,99] ?_
 exact Xi J J J J (Xw [] (by decide) J J J)
theorem eq_Flight (x y:TFlight) (hg:Enc.gd x):Con Tryz.prog 171 [] [ag x,ag y] [] (B (decide (x=y))):=by
 obtain⟨g_At,g_Data⟩:=hg
 by_cases e_At:¬x.At=y.At
 ·have hk:decide (x.At≠y.At)=true:=by simp[e_At]
  refine Con.of Tryz.func171 J Tryz.ntmps171 J (fun E => ?_)
  refine Wz [34,33] ?_
  exact Xk J J (Xw [] (by decide) J J (Xg (Gqa fun e=>e_At (by rw[e])).symm))
 have e_At:=Classical.not_not.1 e_At
 have k_At:decide (x.At≠y.At)=false:=by simp[e_At]
 by_cases e_Data:¬x.Data=y.Data
 ·have hk:decide (x.Data≠y.Data)=true:=by simp[e_Data]
  refine Con.of Tryz.func171 J Tryz.ntmps171 J (fun E => ?_)
  refine Wz [34,107,220,23] ?_
  exact Xk J J (Xw [] (by decide) J J (Xg (Gqa fun e=>e_Data (by rw[e])).symm))
 have e_Data:=Classical.not_not.1 e_Data
 have k_Data:decide (x.Data≠y.Data)=false:=by simp[e_Data]
 refine Con.of Tryz.func171 J Tryz.ntmps171 J (fun E => ?_)
 refine Wz [34,107,220,54,61] ?_
 exact Xk J J (Xw [] (by decide) J J (Xg (Gqb (TFlight.same e_At e_Data)).symm))
theorem to_Pace (x:TPace) (hg:Enc.wt x≤1048576):Con Tryz.prog 245 [] [ag x] (ownO (Enc.e x)) (.o (.ag (ownV 0 (Enc.e x)))):=by
 refine Con.of Tryz.func245 J Tryz.ntmps245 J (fun E => ?_)
 refine Wz [85,4,1,40,4,41,42,42,42,42,86,45,30,99] ?_
 exact Xi J J J J (Xw [] (by decide) J J J)
theorem eq_Pace (x y:TPace) (hg:Enc.gd x):Con Tryz.prog 230 [] [ag x,ag y] [] (B (decide (x=y))):=by
 obtain⟨g_Newest,g_Their,g_At,g_Trip,g_Samples⟩:=hg
 by_cases e_Newest:¬x.Newest=y.Newest
 ·have hk:decide (x.Newest≠y.Newest)=true:=by simp[e_Newest]
  refine Con.of Tryz.func230 J Tryz.ntmps230 J (fun E => ?_)
  refine Wz [34,33] ?_
  exact Xk J J (Xw [] (by decide) J J (Xg (Gqa fun e=>e_Newest (by rw[e])).symm))
 have e_Newest:=Classical.not_not.1 e_Newest
 have k_Newest:decide (x.Newest≠y.Newest)=false:=by simp[e_Newest]
 by_cases e_Their:¬x.Their=y.Their
 ·have hk:decide (x.Their≠y.Their)=true:=by simp[e_Their]
  refine Con.of Tryz.func230 J Tryz.ntmps230 J (fun E => ?_)
  refine Wz [34,107,33] ?_
  exact Xk J J (Xw [] (by decide) J J (Xg (Gqa fun e=>e_Their (by rw[e])).symm))
 have e_Their:=Classical.not_not.1 e_Their
 have k_Their:decide (x.Their≠y.Their)=false:=by simp[e_Their]
 by_cases e_At:¬x.At=y.At
 ·have hk:decide (x.At≠y.At)=true:=by simp[e_At]
  refine Con.of Tryz.func230 J Tryz.ntmps230 J (fun E => ?_)
  refine Wz [34,114,33] ?_
  exact Xk J J (Xw [] (by decide) J J (Xg (Gqa fun e=>e_At (by rw[e])).symm))
 have e_At:=Classical.not_not.1 e_At
 have k_At:decide (x.At≠y.At)=false:=by simp[e_At]
 by_cases e_Trip:¬x.Trip=y.Trip
 ·have hk:decide (x.Trip≠y.Trip)=true:=by simp[e_Trip]
  refine Con.of Tryz.func230 J Tryz.ntmps230 J (fun E => ?_)
  refine Wz [34,114,107,33] ?_
  exact Xk J J (Xw [] (by decide) J J (Xg (Gqa fun e=>e_Trip (by rw[e])).symm))
 have e_Trip:=Classical.not_not.1 e_Trip
 have k_Trip:decide (x.Trip≠y.Trip)=false:=by simp[e_Trip]
 by_cases e_Samples:¬x.Samples=y.Samples
 ·have hk:decide (x.Samples≠y.Samples)=true:=by simp[e_Samples]
  refine Con.of Tryz.func230 J Tryz.ntmps230 J (fun E => ?_)
  refine Wz [34,121,33] ?_
  exact Xk J J (Xw [] (by decide) J J (Xg (Gqa fun e=>e_Samples (by rw[e])).symm))
 have e_Samples:=Classical.not_not.1 e_Samples
 have k_Samples:decide (x.Samples≠y.Samples)=false:=by simp[e_Samples]
 refine Con.of Tryz.func230 J Tryz.ntmps230 J (fun E => ?_)
 refine Wz [34,121,83,54,61] ?_
 exact Xk J J (Xw [] (by decide) J J (Xg (Gqb (TPace.same e_Newest e_Their e_At e_Trip e_Samples)).symm))
theorem sz_Alarm (x:TAlarm) (left:Int) (hg:Enc.gd x) (h0:0≤left) (h1:left≤1048576):Con Tryz.prog 206 [] [ag x,ai left] [] (I (szr (Enc.wt x) left)):=by
 obtain⟨g_Tick,g_Parts⟩:=hg
 have hw:Enc.wt x=Enc.wt x.Parts:=rfl
 have hm1:decide ((-1:Int)<0)=true:=rfl
 have hc_Parts:=sz_StringS x.Parts (left) g_Parts (by omega) (by omega)
 by_cases n_Parts:left<Enc.wt x.Parts
 ·rw[Kl n_Parts] at hc_Parts
  refine Con.of Tryz.func206 J Tryz.ntmps206 J (fun E => ?_)
  refine Wz [47,71] ?_;refine zx (Qj J J (hc_Parts) J) J ?_;refine Wz [80,23] ?_
  exact Xk J J (Xw [] (by decide) J J (Xn (by rw[Kl (by omega)])))
 rw[Km (by omega)] at hc_Parts
 have hb_Parts:decide (left-Enc.wt x.Parts<0)=false:=Gqa (by omega)
 refine Con.of Tryz.func206 J Tryz.ntmps206 J (fun E => ?_)
 refine Wz [47,71] ?_;refine zx (Qj J J (hc_Parts) J) J ?_;refine Wz [101,166] ?_
 exact Xk J J (Xw [] (by decide) J J (Xn (by rw[Km (by omega)]; omega)))
theorem to_Alarm (x:TAlarm) (hg:Enc.wt x≤1048576):Con Tryz.prog 210 [] [ag x] (ownO (Enc.e x)) (.o (.ag (ownV 0 (Enc.e x)))):=by
 have hw:Enc.wt x=Enc.wt x.Parts:=rfl
 refine Con.of Tryz.func210 J Tryz.ntmps210 J (fun E => ?_)
 refine Wz [85,4,1,40,4,41,42] ?_;refine M1 (Zm J J (to_StringS x.Parts (by omega)) J J J) J J ?_;refine Wz [86,45,30,99] ?_
 exact Xi J J J J (Xw [3] (by decide) J J J)
theorem eq_Alarm (x y:TAlarm) (hg:Enc.gd x):Con Tryz.prog 170 [] [ag x,ag y] [] (B (decide (x=y))):=by
 obtain⟨g_Tick,g_Parts⟩:=hg
 by_cases e_Tick:¬x.Tick=y.Tick
 ·have hk:decide (x.Tick≠y.Tick)=true:=by simp[e_Tick]
  refine Con.of Tryz.func170 J Tryz.ntmps170 J (fun E => ?_)
  refine Wz [34,33] ?_
  exact Xk J J (Xw [] (by decide) J J (Xg (Gqa fun e=>e_Tick (by rw[e])).symm))
 have e_Tick:=Classical.not_not.1 e_Tick
 have k_Tick:decide (x.Tick≠y.Tick)=false:=by simp[e_Tick]
 by_cases e_Parts:¬x.Parts=y.Parts
 ·have hc:=eq_StringS x.Parts y.Parts g_Parts
  rw[Gqa e_Parts] at hc
  refine Con.of Tryz.func170 J Tryz.ntmps170 J (fun E => ?_)
  refine Wz [34,107] ?_;refine zx (Qj J J (hc) J) J ?_;refine Wz [3,23] ?_
  exact Xk J J (Xw [] (by decide) J J (Xg (Gqa fun e=>e_Parts (by rw[e])).symm))
 have e_Parts:=Classical.not_not.1 e_Parts
 have hc_Parts:=eq_StringS x.Parts y.Parts g_Parts
 rw[Gqb e_Parts] at hc_Parts
 refine Con.of Tryz.func170 J Tryz.ntmps170 J (fun E => ?_)
 refine Wz [34,107] ?_;refine zx (Qj J J (hc_Parts) J) J ?_;refine Wz [3,54,61] ?_
 exact Xk J J (Xw [] (by decide) J J (Xg (Gqb (TAlarm.same e_Tick e_Parts)).symm))
end
section
open Go.RowKit

def inR (n lo hi:Int):Bool:=decide (lo≤n)&&decide (n≤hi)
theorem Yu {n lo hi:Int}:inR n lo hi=true↔lo≤n∧n≤hi:=by simp[inR]
theorem Xm (n lo hi:Int):Con Tryz.prog 137 [] [ai n,ai lo,ai hi] [] (B (inR n lo hi)):=by
 refine Con.of Tryz.func137 J Tryz.ntmps137 J (fun E => ?_)
 refine Wz [1,5,7,212,0,163,235,265,49,52] ?_
 exact Xk J J (Xw [] (by decide) J J J)
theorem Xv (n lo hi:Int):Con Tryz.prog 133 [] [ai n,ai lo,ai hi] [] (B (inR n lo hi)):=by
 refine Con.of Tryz.func133 J Tryz.ntmps133 J (fun E => ?_)
 refine Wz [1,5,7,212,0,163,235,265,49,52] ?_
 exact Xk J J (Xw [] (by decide) J J J)

section
variable {α:Type} {p:α→Bool} {xs:List α} {k:Nat}
theorem X3 (h:(xs.take k).all p=true) (hk:k<xs.length) (hp:p xs[k]=true):(xs.take (k+1)).all p=true:=by
 rw[Gxn hk,List.all_append,h]
 simp[hp]
theorem all_no (hk:k<xs.length) (hp:p xs[k]=false):xs.all p=false:=by
 rw[List.all_eq_false]
 exact⟨_,Gqd hk,by simp[hp]⟩
theorem X1 (h:(xs.take k).all p=true) (hk:xs.length≤k):xs.all p=true:=by rwa[Gqh hk] at h
end
def inOk (xs:List Int):Bool:=xs.all fun n=>inR n 0 15
def rowOk (xs:List Int) (n:Int):Bool:=decide ((xs.length:Int)=n)&&inOk xs

theorem I_inputsOk (xs:List Int) (hn:Enc.gd xs):Con Tryz.prog 228 [] [al xs] [] (B (inOk xs)):=by
 have hn1:=hn.1
 have hlx:=Yf xs
 refine Con.of Tryz.func228 J Tryz.ntmps228 J (fun E => ?_)
 refine Wz [100,102] ?_;refine Xf (fun m st=>∃ k:Nat,k+m=xs.length∧((xs.take k).all (fun n=>inR n 0 15)=true)∧st=(⟨_,[(5,L xs),(6,I (els xs).length),(7,I k)],[]⟩:St)) (xs.length) ⟨_,⟨0,by omega,by simp,J⟩,Xy [] (by kernel_rfl)⟩ ?_
 rintro m_A _ ⟨k,hk_A,hp_A,rfl⟩
 refine Wz [1,38,20] ?_
 refine Q9 J (fun h => ?_) (fun h => ?_)
 ·have h3:k<xs.length:=by have:=Gqc h; omega
  have hat:=Yc h3
  refine Wz [6,1,92,19] ?_;refine zx (Qj J J (Xm xs[k] 0 15) J) J ?_;refine Wz [3,4] ?_
  refine Q9 J (fun h4 => ?_) (fun h4 => ?_)
  ·refine Wz [66,182] ?_
   refine Wz [31] ?_
   exact Xk J J (Xw [] (by decide) J J (Xg (all_no h3 (by simpa using h4)).symm))
  ·refine Wz [128,59,75,8,0,127] ?_
   refine Qz ?_
   exact⟨xs.length-(k+1),by omega,_,⟨k+1,by omega,X3 hp_A h3 (by simpa using h4),J⟩,Xy [] (by kernel_rfl)⟩
 ·have h3:¬((k:Int)<(els xs).length):=Gqe h
  refine Wz [16,61] ?_
  exact Xk J J (Xw [] (by decide) J J (Xg (X1 hp_A (by omega)).symm))
theorem I_rowOk (xs:List Int) (n:Int) (hn:Enc.gd xs):Con Tryz.prog 196 [] [al xs,ai n] [] (B (rowOk xs n)):=by
 have hlx:=Yf xs
 refine Con.of Tryz.func196 J Tryz.ntmps196 J (fun E => ?_)
 refine Wz [1,19,123,174,0,163] ?_;refine zx (Qt.grdT J J J (.hit .stop) (fun hgrd=>Qj J J (I_inputsOk xs hn) J)) J ?_;refine Wz [49,52] ?_
 exact Xk J J (Xw [] (by decide) J J (Xg (by rw[hlx]; rfl)))
theorem S_rowOk (xs:List Int) (n:Int) (hn:Enc.gd xs):Con Tryz.prog 183 [] [al xs,ai n] [] (B (rowOk xs n)):=by
 have hn1:=hn.1
 have hlx:=Yf xs
 refine Con.of Tryz.func183 J Tryz.ntmps183 J (fun E => ?_)
 refine Wz [103] ?_;refine Xf (fun m st=>∃ k:Nat,k+m=xs.length∧((xs.take k).all (fun n=>inR n 0 15)=true)∧st=(⟨_,[(0,L xs),(1,I n),(5,I k)],[]⟩:St)) (xs.length) ⟨_,⟨0,by omega,by simp,J⟩,Xy [] (by kernel_rfl)⟩ ?_
 rintro m_A _ ⟨k,hk_A,hp_A,rfl⟩
 refine Wz [57] ?_
 refine Q9 J (fun h => ?_) (fun h => ?_)
 ·have h3:k<xs.length:=by have:=Gqc h; omega
  have hat:=Yc h3
  refine Wz [6,7,92] ?_;refine zx (Qj J J (Xv xs[k] 0 15) J) J ?_;refine Wz [3,4] ?_
  refine Q9 J (fun h4 => ?_) (fun h4 => ?_)
  ·refine Wz [66,182] ?_
   refine Wz [31] ?_
   exact Xk J J (Xw [] (by decide) J J (Xg (by unfold rowOk inOk; rw[all_no h3 (by simpa using h4)]; simp)))
  ·refine Wz [128,266,8] ?_
   refine Wz [5] ?_
   exact⟨xs.length-(k+1),by omega,_,⟨k+1,by omega,X3 hp_A h3 (by simpa using h4),J⟩,Xy [] (by kernel_rfl)⟩
 ·have h3:¬((k:Int)<(els xs).length):=Gqe h
  refine Wz [16,9,123,174,52] ?_
  exact Xk J J (Xw [] (by decide) J J (Xg (by unfold rowOk inOk; rw[X1 hp_A (by omega),hlx]; simp)))
end
section
open Go.RowKit

def varN (n:Nat):List UInt8:=if n<128 then [UInt8.ofNat n] else UInt8.ofNat (n%128+128)::varN (n/128)
termination_by n
decreasing_by omega
def encVar (n:Int):List UInt8:=if 0≤n∧n≤1099511627775 then varN n.toNat else []
theorem Kp {n:Nat} (h:n<128):varN n = [UInt8.ofNat n]:=by rw[varN,if_pos h]
theorem varN_big {n:Nat} (h:¬n<128):varN n=UInt8.ofNat (n%128+128)::varN (n/128):=by rw[varN,if_neg h]
theorem varN_step {acc:List UInt8} {m:Nat} {l:List UInt8} (h:acc++varN m=l) (hm:¬m<128) {x:UInt8} (hx:x=UInt8.ofNat (m%128+128)):(acc ++ [x])++varN (m/128)=l:=by
 rw[←h,varN_big hm,hx]; simp
theorem varN_end {acc:List UInt8} {m:Nat} {l:List UInt8} (h:acc++varN m=l) (hm:m<128) {x:UInt8} (hx:x=UInt8.ofNat m):acc ++ [x]=l:=by
 rw[←h,Kp hm,hx]

theorem I_EncodeVarint (n:Int):Con Tryz.prog 274 [] [ai n] [] (S (bs (encVar n))):=by
 refine Con.of Tryz.func274 J Tryz.ntmps274 J (fun E => ?_)
 refine Wz [138,153,0,95,213,43] ?_
 refine Q9 J (fun h => ?_) (fun h => ?_)
 ·simp only[Gqo,decide_eq_true_eq] at h
  refine Wz [35] ?_
  exact Xk J J (Xw [] (by decide) J J (S_eq (by rw[encVar,if_neg (by omega)])))
 simp only[Gql,decide_eq_false_iff_not] at h
 have he:encVar n=varN n.toNat:=by rw[encVar,if_pos (by omega)]
 rw[he]
 refine Wz [64,1,5,20,210] ?_
 refine AWP.pre ?_ (W_nil 3 1 J)
 refine Xf (fun m__ st=>∃ (m:Nat) (acc:List UInt8),m=m__∧(acc++varN m=varN n.toNat∧acc.length+m≤1099511627775)∧st=(⟨_,[(0,I m),(3,.o (.c (.ref 0)))],[.row 1 (bE acc)]⟩:St)) _ ⟨(fun (m:Nat) (acc:List UInt8)=>(⟨_,[(0,I m),(3,.o (.c (.ref 0)))],[.row 1 (bE acc)]⟩:St)) (n.toNat) ([]),⟨n.toNat,[],J,⟨J,by simp <;> omega⟩,J⟩,Xz [0] (by decide) J (by kernel_rfl) (.cons (Xn (by omega)) (.c J (.nil)))⟩ ?_
 rintro m_A _ ⟨m,acc,hk_A,hp_A,rfl⟩
 refine Wz [69,212,4] ?_
 refine Q9 J (fun h5 => ?_) (fun h5 => ?_)
 ·have h5:¬m<128:=by have:=Gqc h5; omega
  have hl:=X6 acc
  refine Wz [64,210,7,211,8,234,136,200,5,106,173,149,127,59] ?_
  refine⟨_,(by omega),(fun (m:Nat) (acc:List UInt8)=>(⟨_,[(0,I m),(3,.o (.c (.ref 0)))],[.row 1 (bE acc)]⟩:St)) (m/128) (acc ++ [UInt8.ofNat ((m:Int)%128+128).toNat]),⟨m/128,acc ++ [UInt8.ofNat ((m:Int)%128+128).toNat],J,⟨varN_step hp_A.1 h5 (by congr 1 <;> omega),by have:=hp_A.2; simp <;> omega⟩,J⟩,Xz [0] (by decide) J (Kf (bE_snoc _ _ (by omega)).symm) (.cons (Xn (by omega)) (.c J (.nil)))⟩
 ·have h5:m<128:=by have:=Gqe h5; omega
  have hl:=X6 acc
  have hb:=hp_A.2
  refine Wz [16,7,234,136,200,19,267,52] ?_
  exact Xk J J (Xw [] (by decide) J J (S_eq (congrArg bs (varN_end hp_A.1 h5 (by congr 1)))))
theorem Xu (n:Int):Con Tryz.prog 267 [] [ai n] [] (S (bs (encVar n))):=by
 refine Con.of Tryz.func267 J Tryz.ntmps267 J (fun E => ?_)
 refine Wz [138] ?_;refine zx (Qj J J (Xv n 0 1099511627775) J) J ?_;refine Wz [3,4] ?_
 refine Q9 J (fun h => ?_) (fun h => ?_)
 ·have h:¬(0≤n∧n≤1099511627775):=by rw[←Yu]; simpa using h
  refine Wz [35] ?_
  exact Xk J J (Xw [] (by decide) J J (S_eq (by rw[encVar,if_neg h])))
 have h:0≤n∧n≤1099511627775:=by rw[←Yu]; simpa using h
 have he:encVar n=varN n.toNat:=by rw[encVar,if_pos h]
 rw[he]
 refine Wz [64,1,159,5,20,210] ?_
 refine Xf (fun m__ st=>∃ (m:Nat) (acc:List UInt8),m=m__∧(acc++varN m=varN n.toNat∧acc.length+m≤1099511627775)∧st=(⟨_,[(0,I m),(3,.o (.c (.ref 0)))],[.row 1 (bE acc)]⟩:St)) _ ⟨(fun (m:Nat) (acc:List UInt8)=>(⟨_,[(0,I m),(3,.o (.c (.ref 0)))],[.row 1 (bE acc)]⟩:St)) (n.toNat) ([]),⟨n.toNat,[],J,⟨J,by simp <;> omega⟩,J⟩,Xz [0] (by decide) J (by kernel_rfl) (.cons (Xn (by omega)) (.c J (.nil)))⟩ ?_
 rintro m_A _ ⟨m,acc,hk_A,hp_A,rfl⟩
 refine Wz [69,233,4] ?_
 refine Q9 J (fun h5 => ?_) (fun h5 => ?_)
 ·have h5:¬m<128:=by have:=Gqc h5; omega
  have hl:=X6 acc
  have hb:=hp_A.2
  have hb1:(m:Int).toNat &&& (127:Int).toNat=m%128:=Gxt m 7
  have hb2:((m%128:Nat):Int).toNat ||| (128:Int).toNat=m%128+128:=by
   have:=Nat.two_pow_add_eq_or_of_lt (i:=7) (b:=m%128) (by omega) 1
   rw[Nat.or_comm]
   show 128 ||| m%128=_
   rw[←this]; omega
  have hb3:(m:Int)/2 ^ (7:Int).toNat=(m/128:Nat):=by
   show (m:Int)/128=_
   omega
  refine Wz [64,210,7] ?_;refine zx (q_bandK J J J J (by assumption) (by omega)) J ?_;refine Wz [252,234,136,200,5,106] ?_;refine zx (q_shrK J J J J (by assumption) ⟨by omega,by omega,by decide⟩) J ?_;refine Wz [149,127,59] ?_
  refine⟨_,(by omega),(fun (m:Nat) (acc:List UInt8)=>(⟨_,[(0,I m),(3,.o (.c (.ref 0)))],[.row 1 (bE acc)]⟩:St)) (m/128) (acc ++ [UInt8.ofNat ((m%128+128:Nat):Int).toNat]),⟨m/128,acc ++ [UInt8.ofNat ((m%128+128:Nat):Int).toNat],J,⟨varN_step hp_A.1 h5 (by congr 1),by simp <;> omega⟩,J⟩,Xz [0] (by decide) J (Kf (bE_snoc _ _ (by omega)).symm) (.c J (.c J (.nil)))⟩
 ·have h5:m<128:=by have:=Gqe h5; omega
  have hl:=X6 acc
  have hb:=hp_A.2
  refine Wz [16,7,234,136,200,267,52] ?_
  exact Xk J J (Xw [] (by decide) J J (S_eq (congrArg bs (varN_end hp_A.1 h5 (by congr 1)))))

theorem varN_pow:∀ (j n:Nat),n<128 ^ (j+1)→(varN n).length≤j+1
 |0,n,h=>by rw[Kp (by omega)]; simp
 | j+1,n,h=>by
  by_cases hn:n<128
  ·rw[Kp hn]; simp
  ·rw[varN_big hn,Gq4]
   have:=varN_pow j (n/128) (by rw[Nat.pow_succ] at h; omega)
   omega
theorem Yj (n:Int):(encVar n).length≤6:=by
 unfold encVar
 split
 ·exact varN_pow 5 _ (by omega)
 ·simp
def signless (n:Int):Int:=if -549755813888≤n∧n≤549755813887 then (if 0≤n then 2*n else -2*n-1) else -1
theorem I_Signless (n:Int) (hn:I64 n):Con Tryz.prog 296 [] [ai n] [] (I (signless n)):=by
 obtain⟨hn1,hn2⟩:=hn
 refine Con.of Tryz.func296 J Tryz.ntmps296 J (fun E => ?_)
 refine Wz [138,153,0,95,213,43] ?_
 refine Q9 J (fun h => ?_) (fun h => ?_)
 ·simp only[Gqo,decide_eq_true_eq] at h
  refine Wz [35] ?_
  exact Xk J J (Xw [] (by decide) J J (Xn (by rw[signless,if_neg (by omega)])))
 simp only[Gql,decide_eq_false_iff_not] at h
 refine Wz [48,0,212,4] ?_
 refine Q9 J (fun h1 => ?_) (fun h1 => ?_)
 ·have h1:=Gqc h1
  refine Wz [9,171,72,31] ?_
  exact Xk J J (Xw [] (by decide) J J (Xn (by rw[signless,if_pos (by omega),if_pos (by omega)])))
 ·have h1:=Gqe h1
  refine Wz [64,9,171,74,52] ?_
  exact Xk J J (Xw [] (by decide) J J (Xn (by rw[signless,if_pos (by omega),if_neg (by omega)])))
theorem S_Signless (n:Int) (hn:I64 n):Con Tryz.prog 293 [] [ai n] [] (I (signless n)):=by
 obtain⟨hn1,hn2⟩:=hn
 refine Con.of Tryz.func293 J Tryz.ntmps293 J (fun E => ?_)
 refine Wz [138] ?_;refine zx (Qj J J (Xv n (-549755813888) 549755813887) J) J ?_;refine Wz [3,4] ?_
 refine Q9 J (fun h => ?_) (fun h => ?_)
 ·have h:¬(-549755813888≤n∧n≤549755813887):=by rw[←Yu]; simpa using h
  refine Wz [35] ?_
  exact Xk J J (Xw [] (by decide) J J (Xn (by rw[signless,if_neg (by omega)])))
 have h : -549755813888≤n∧n≤549755813887:=by rw[←Yu]; simpa using h
 refine Wz [48,0,212,4] ?_
 refine Q9 J (fun h1 => ?_) (fun h1 => ?_)
 ·have h1:=Gqc h1
  refine Wz [9,171,72,31] ?_
  exact Xk J J (Xw [] (by decide) J J (Xn (by rw[signless,if_pos (by omega),if_pos (by omega)])))
 ·have h1:=Gqe h1
  refine Wz [64,9,171,74,52] ?_
  exact Xk J J (Xw [] (by decide) J J (Xn (by rw[signless,if_pos (by omega),if_neg (by omega)])))
def packK (xs:List Int) (k:Nat):List UInt8:=encVar xs.length++(xs.take k).flatMap fun x=>encVar (signless x)
def packInts (xs:List Int):ByteArray:=if xs.all (fun x=>decide (0≤signless x)) then bs (packK xs xs.length) else bs []
theorem packK_succ {xs:List Int} {k:Nat} (h:k<xs.length):packK xs (k+1)=packK xs k++encVar (signless xs[k]):=by
 unfold packK
 rw[Gxn h,List.flatMap_append,Gq9]
 simp
theorem packK_len (xs:List Int):∀ k,k≤xs.length→(packK xs k).length≤6*k+6
 |0,_=>by simp[packK]; exact Yj _
 |k+1,h=>by
  rw[packK_succ (by omega),Gqr]
  have:=packK_len xs k (by omega)
  have:=Yj (signless xs[k])
  omega
theorem packInts_size (xs:List Int):(packInts xs).size≤6*xs.length+6:=by
 unfold packInts
 split
 ·rw[X8]; exact packK_len xs _ (Gqj _)
 ·rw[X8]; simp
theorem I_PackInts (xs:List Int) (hg:Enc.gd xs) (hL:xs.length≤1073741824):Con Tryz.prog 262 [] [al xs] [] (S (packInts xs)):=by
 have hlx:=Yf xs
 have h1:=X8 (encVar (els xs).length)
 have h2:=Yj (els xs).length
 refine Con.of Tryz.func262 J Tryz.ntmps262 J (fun E => ?_)
 refine Wz [1,19,14] ?_;refine zx (Qj J J (I_EncodeVarint (els xs).length) J) J ?_;refine M1 (q_strb J J J (by omega)) J J ?_;refine Wz [46,123,102] ?_
 refine Xf (fun m st=>∃ k:Nat,k+m=xs.length∧((xs.take k).all (fun x=>decide (0≤signless x))=true)∧st=(⟨_,[(3,.o (.c (.ref 0))),(11,L xs),(12,I (els xs).length),(13,I k)],[.row 1 (bE (packK xs k))]⟩:St)) (xs.length) ⟨(fun k:Nat=>(⟨_,[(3,.o (.c (.ref 0))),(11,L xs),(12,I (els xs).length),(13,I k)],[.row 1 (bE (packK xs k))]⟩:St)) 0,⟨0,by omega,by simp,J⟩,Xz [0] (by decide) J (Kf (by rw[bs_list,hlx]; simp[packK])) (.c J (.c J (.c J (.c J (.nil)))))⟩ ?_
 rintro m_A _ ⟨k,hk_A,hp_A,rfl⟩
 refine Wz [1,38,20] ?_
 refine Q9 J (fun h => ?_) (fun h => ?_)
 ·have h3:k<xs.length:=by have:=Gqc h; omega
  have hat:=Yc h3
  have hb1:=X6 (packK xs k)
  have hb2:=packK_len xs k (by omega)
  have hb3:=X8 (encVar (signless xs[k]))
  have hb4:=Yj (signless xs[k])
  refine Wz [6,1,92,19] ?_;refine zx (Qj J J (I_Signless xs[k] (hg.2 _ (Gqd h3))) J) J ?_;refine Wz [46,38] ?_
  refine Q9 J (fun h4 => ?_) (fun h4 => ?_)
  ·refine Wz [66,82,201,201] ?_
   refine Wz [172,31] ?_
   exact Xk J J (Xw [] (by decide) J J (S_eq (by rw[packInts,all_no h3 (by simpa using h4)]; rfl)))
  ·refine Wz [64,78] ?_
   refine zx (Qj J J (I_EncodeVarint (signless xs[k])) J) J ?_;refine M_appstr J J J J J J J (by omega) (by omega) ?_;refine Wz [149,127,59,75,8,0,4] ?_
   exact⟨xs.length-(k+1),by omega,_,⟨k+1,by omega,X3 hp_A h3 (by simpa using h4),J⟩,(by rw[bs_list,bE_app,packK_succ h3]; exact Xy [0] (by kernel_rfl))⟩
 ·have h3:¬((k:Int)<(els xs).length):=Gqe h
  have hk:k=xs.length:=by omega
  refine Wz [16,9,267,52] ?_
  exact Xk J J (Xw [] (by decide) J J (S_eq (by rw[packInts,X1 hp_A (by omega),hk]; rfl)))
theorem S_PackInts (xs:List Int) (hg:Enc.gd xs) (hL:xs.length≤1073741824):Con Tryz.prog 258 [] [al xs] [] (S (packInts xs)):=by
 have hlx:=Yf xs
 refine Con.of Tryz.func258 J Tryz.ntmps258 J (fun E => ?_)
 refine Wz [1,19,14] ?_;refine zx (Qj J J (Xu (els xs).length) J) J ?_;refine Wz [130] ?_
 refine Xf (fun m st=>∃ k:Nat,k+m=xs.length∧((xs.take k).all (fun x=>decide (0≤signless x))=true)∧st=(⟨_,[(0,L xs),(3,S (bs (packK xs k))),(4,I k)],[]⟩:St)) (xs.length) ⟨(fun k:Nat=>(⟨_,[(0,L xs),(3,S (bs (packK xs k))),(4,I k)],[]⟩:St)) 0,⟨0,by omega,by simp,J⟩,Xz [] (by decide) J (by kernel_rfl) (.c J (.cons (S_eq (by rw[hlx]; simp[packK])) (.c J (.nil))))⟩ ?_
 rintro m_A _ ⟨k,hk_A,hp_A,rfl⟩
 refine Wz [57] ?_
 refine Q9 J (fun h => ?_) (fun h => ?_)
 ·have h3:k<xs.length:=by have:=Gqc h; omega
  have hat:=Yc h3
  have hb1:=X8 (packK xs k)
  have hb2:=packK_len xs k (by omega)
  have hb3:=X8 (encVar (signless xs[k]))
  have hb4:=Yj (signless xs[k])
  have hc:=S_Signless xs[k] (hg.2 _ (Gqd h3))
  refine Wz [6,25,92] ?_;refine zx (Qj J J (hc) J) J ?_;refine Wz [38] ?_
  refine Q9 J (fun h4 => ?_) (fun h4 => ?_)
  ·refine Wz [66,82,201,201] ?_
   refine Wz [172,31] ?_
   exact Xk J J (Xw [] (by decide) J J (S_eq (by rw[packInts,all_no h3 (by simpa using h4)]; rfl)))
  ·refine Wz [64,78,0] ?_
   refine Wz [92] ?_;refine zx (Qj J J (hc) J) J ?_;refine zx (Qj J J (Xu (signless xs[k])) J) J ?_;refine zx (q_cat J J J J (by omega)) J ?_;refine Wz [76] ?_
   exact⟨xs.length-(k+1),by omega,(fun k:Nat=>(⟨_,[(0,L xs),(3,S (bs (packK xs k))),(4,I k)],[]⟩:St)) (k+1),⟨k+1,by omega,X3 hp_A h3 (by simpa using h4),J⟩,Xz [] (by decide) J (by kernel_rfl) (.c J (.cons (S_eq (by rw[bs_app,packK_succ h3])) (.c J (.nil))))⟩
 ·have h3:¬((k:Int)<(els xs).length):=Gqe h
  have hk:k=xs.length:=by omega
  refine Wz [27] ?_
  exact Xk J J (Xw [] (by decide) J J (S_eq (by rw[packInts,X1 hp_A (by omega),hk]; rfl)))
end
section
open Go.RowKit

def dvGo (s:ByteArray) (p:Nat) (n:Int) (k:Nat):Nat→Option (Int×Nat)
 |0=>none
 | f+1=>if p+k<s.size then
   (if 128≤byteAt s (p+k) then dvGo s p (n+byteAt s (p+k)%128*2 ^ (7*k)) (k+1) f
    else if (byteAt s (p+k)=0∧0<k)∨1099511627775<n+byteAt s (p+k)%128*2 ^ (7*k) then none
    else some (n+byteAt s (p+k)%128*2 ^ (7*k),k+1)) else none
def decVar (s:ByteArray) (p:Int):Option (Int×Nat):=if 0≤p∧p<s.size then dvGo s p.toNat 0 0 6 else none
@[reducible] def bv (b:Bool):V1 := .rd [] (.v (.bool b))
@[reducible] def jn (n:Int):V1 := .rd [] (.v (.int .i64 n))
@[reducible] def dvR:Option (Int×Nat)→V
 |none => .tu [.c (jn 0),.c (jn 0),.c (bv false)]
 |some (n,k) => .tu [.c (jn n),.c (jn k),.c (bv true)]
theorem pow7 {k:Nat} (h:k≤6):∃ M:Nat,2 ^ (7*k)=M∧1≤M∧M≤4398046511104:=by
 refine⟨_,J,Nat.one_le_two_pow,?_⟩
 exact Nat.le_trans (Nat.pow_le_pow_right (by omega) (show 7*k≤42 by omega)) (by decide)
theorem pow7s (k:Nat):2 ^ (7*(k+1))=128*2 ^ (7*k):=by
 rw[show 7*(k+1)=7*k+7 by omega,Nat.pow_add]
 omega
theorem dv_part {c:Int} {M:Nat} (h0:0≤c) (h1:c<128):0≤c*(M:Int)∧c*(M:Int)≤127*M:=by
 refine⟨Int.mul_nonneg h0 (by omega),Int.mul_le_mul_of_nonneg_right (by omega) (by omega)⟩
theorem pow7i (k:Nat):(2:Int) ^ (7*(k:Int)).toNat=((2 ^ (7*k):Nat):Int):=by
 rw[show (7*(k:Int)).toNat=7*k by omega]
 norm_cast
theorem I_DecodeVarint (s:ByteArray) (p:Int) (hs:s.size≤1099511627776) (hp:I64 p):Con Tryz.prog 294 [] [astr s,ai p] [] (dvR (decVar s p)):=by
 obtain⟨hp1,hp2⟩:=hp
 by_cases hin:¬(0≤p∧p<s.size)
 ·rw[show decVar s p=none by rw[decVar,if_neg hin]]
  refine Con.of Tryz.func294 J Tryz.ntmps294 J (fun E => ?_)
  refine Wz [1,60,46,153,0,95,236] ?_;refine zx (Qt.grdF J J J (.hit (.hit .stop)) (fun hgrd=>Zx J J J)) J ?_;refine zx (Qt.grdF J J J (.hit (.hit (.hit .stop))) (fun hgrd=>q_geq J J J J)) J ?_;refine Wz [43] ?_
  refine Q9 J (fun h => ?_) (fun h => ?_)
  ·refine Wz [1,60,149,127] ?_
   refine Wz [283,288,31] ?_
   exact Xl J J J J (Xw [] (by decide) J J J)
  ·simp only[Gql,decide_eq_false_iff_not] at h
   omega
 have hin:=Classical.not_not.1 hin
 obtain⟨q,rfl⟩:∃ q:Nat,p=q:=⟨p.toNat,by omega⟩
 rw[show decVar s q=dvGo s q 0 0 6 by rw[decVar,if_pos hin]; rfl]
 have hb1:decide ((q:Int)<0)=false:=Gqa (by omega)
 have hb2:decide ((s.size:Int)≤q)=false:=Gqa (by omega)
 refine Con.of Tryz.func294 J Tryz.ntmps294 J (fun E => ?_)
 refine Wz [1,60,80,22,26,126,2,167,15,54,103] ?_;refine Xf (fun m__ st=>∃ (k:Nat) (n:Int),6-k=m__∧(k≤6∧0≤n∧n<((2 ^ (7*k):Nat):Int)∧dvGo s q n k (6-k)=dvGo s q 0 0 6)∧st=(⟨_,[(0,S s),(1,I q),(7,I n),(8,I k)],[]⟩:St)) _ ⟨_,⟨0,0,J,⟨by omega,by omega,by simp,J⟩,J⟩,Xy [] (by kernel_rfl)⟩ ?_
 rintro m_A _ ⟨k,n,hk_A,hp_A,rfl⟩
 obtain⟨hk6,hn0,hn1,hgo⟩:=hp_A
 obtain⟨M,hM,hM1,hM2⟩:=pow7 hk6
 have hMs:=pow7s k
 rw[hM] at hn1 hMs
 rw[←hgo]
 refine Wz [69,153,0,163,235] ?_;refine zx (Qt.grdT J J J (.hit (.hit .stop)) (fun hgrd=>Zx J J J)) J ?_;refine zx (Qt.grdT J J J (.hit (.hit (.hit .stop))) (fun hgrd=>Qa J J J)) J ?_;refine zx (Qt.grdT J J J (.hit (.hit (.hit (.hit .stop)))) (fun hgrd=>Xa J J J J (by omega))) J ?_;refine zx (Qt.grdT J J J (.hit (.hit (.hit (.hit (.hit .stop))))) (fun hgrd=>Z1 J J J J)) J ?_;refine Wz [49,4] ?_
 refine Q9 J (fun h => ?_) (fun h => ?_)
 ·simp only[Gqk,decide_eq_true_eq] at h
  have hlt:q+k<s.size:=by omega
  obtain⟨f,hf⟩:∃ f,6-k=f+1:=⟨5-k,by omega⟩
  obtain⟨c,hc⟩:∃ c,byteAt s (q+k)=c:=⟨_,rfl⟩
  have hcr:=byteAt_lt s (q+k)
  rw[hc] at hcr
  have hc1:byteAt s ((q:Int)+(k:Int)).toNat=c:=by rw[←hc]; congr 1
  obtain⟨d,hd⟩:∃ d:Nat,c%128=d:=⟨(c%128).toNat,by omega⟩
  have hd1:c.toNat &&& (127:Int).toNat=d:=by
   rw[show (127:Int).toNat=2 ^ 7-1 from rfl,Gxt]
   omega
  have hdM:=dv_part (c:=d) (M:=M) (by omega) (by omega)
  obtain⟨r,hr⟩:∃ r,(d:Int)*M=r:=⟨_,rfl⟩
  rw[hr] at hdM
  have hr1:(d:Int)*2 ^ (7*(k:Int)).toNat=r:=by rw[pow7i,hM,hr]
  have hgo1:dvGo s q n k (f+1)=if 128≤c then dvGo s q (n+r) (k+1) f else if (c=0∧0<k)∨1099511627775<n+r then none else some (n+r,k+1):=by
   have h9:c%128*2 ^ (7*k)=r:=by
    rw[hd,←hr,←hM]
    norm_cast
   rw[dvGo,if_pos hlt,hc,h9]
  rw[hf,hgo1]
  by_cases h7:128≤c
  ·have hb7:decide (128≤c)=true:=Gqb h7
   refine Wz [6,157,8,183,5,7,237,238,0,171,239,8,46,167,17,289,290,283,106,253] ?_
   refine⟨_,(by omega),_,⟨k+1,n+r,J,⟨by omega,by omega,by rw[hMs]; omega,by rw[if_pos h7,show 6-(k+1)=f by omega]⟩,J⟩,Xy [] (by kernel_rfl)⟩
  have hb7:decide (128≤c)=false:=Gqa h7
  rw[if_neg h7]
  refine Wz [6,157,8,183,5,7,237,238,0,171,239,8,46,167,39,0,174,0,163] ?_;refine zx (Qt.grdT J J J (.hit .stop) (fun hgrd=>Zt J J J J)) J ?_;refine Wz [49,0,95,213,43] ?_
  refine Q9 J (fun h8 => ?_) (fun h8 => ?_)
  ·simp only[Gqo,Gqk,decide_eq_true_eq] at h8
   rw[if_pos (by omega)]
   refine Wz [1,60,72,82,139,31] ?_
   exact Xl J J J J (Xw [] (by decide) J J J)
  ·simp only[Gql,Gxf,decide_eq_false_iff_not] at h8
   rw[if_neg (by omega)]
   refine Wz [64,7,8,60,72,137] ?_
   exact Xl J J J J (Xw [] (by decide) J J J)
 ·simp only[Gxf,decide_eq_false_iff_not] at h
  rw[show dvGo s q n k (6-k)=none by
   cases hf:6-k with
   |zero=>rfl
   |succ f=>rw[dvGo,if_neg (by omega)]]
  refine Wz [16,1,60,52] ?_
  exact Xl J J J J (Xw [] (by decide) J J J)
theorem or_add {n r M:Nat} {k d:Nat} (hM:2 ^ (7*k)=M) (hn:n<M) (hr:d*M=r):n ||| r=n+r:=by
 subst hM
 rw[←hr,Nat.mul_comm,Nat.add_comm,Nat.or_comm]
 exact (Nat.two_pow_add_eq_or_of_lt hn d).symm
def bytesL (s:ByteArray) (p k:Nat):List UInt8:=(s.data.toList.drop p).take k
theorem byteAt_list {s:ByteArray} {i:Nat} (h:i<s.size):∃ b:UInt8,s.data.toList[i]? = some b∧byteAt s i=(b.toNat:Int):=by
 have h1:i<s.data.size:=h
 refine⟨s.data[i],by simp[h1],?_⟩
 unfold byteAt
 have:s[i]? = some s.data[i]:=by
  rw[getElem?_pos s i h]
  rfl
 rw[this]
 rfl
theorem bytesL_succ {s:ByteArray} {p k:Nat} (h:p+k<s.size):∃ b:UInt8,bytesL s p (k+1)=bytesL s p k ++ [b]∧byteAt s (p+k)=(b.toNat:Int):=by
 obtain⟨b,h1,h2⟩:=byteAt_list h
 refine⟨b,?_,h2⟩
 unfold bytesL
 rw[List.take_add_one,Gxg,h1]
 rfl
def dval:List UInt8→Nat
 | []=>0
 |b::l=>b.toNat%128+128*dval l
theorem dval_snoc (b:UInt8):∀ l:List UInt8,dval (l ++ [b])=dval l+b.toNat%128*2 ^ (7*l.length)
 | []=>by simp[dval]
 |a::l=>by
  have h1:=dval_snoc b l
  have h2:=pow7s l.length
  simp only[List.cons_append,dval,Gq4,h1,h2]
  rw[Nat.mul_add,Nat.add_assoc,Nat.mul_left_comm]
theorem dval_lt:∀ l:List UInt8,dval l<2 ^ (7*l.length)
 | []=>by simp[dval]
 |a::l=>by
  have h1:=dval_lt l
  have h2:=pow7s l.length
  simp only[dval,Gq4,h2]
  omega
theorem dval_zero {b:UInt8} (hb:b.toNat<128):∀ {l:List UInt8},dval (l ++ [b])=0→b.toNat=0
 | [],h=>by simp[dval] at h; omega
 |a::l,h=>by
  simp only[List.cons_append,dval] at h
  exact dval_zero hb (l:=l) (by omega)
theorem canon {b:UInt8} (hb:b.toNat<128):∀ (l:List UInt8),(∀ a∈l,128≤a.toNat)→(varN (dval (l ++ [b]))=l ++ [b]↔(l = []∨b.toNat≠0))
 | [],_=>by
  simp only[List.nil_append,dval,true_or,iff_true]
  rw[Nat.mod_eq_of_lt hb,Nat.mul_zero,Gxp,Kp hb,UInt8.ofNat_toNat]
 | a::l,h=>by
  have ih:=canon hb l fun x hx=>h x (by simp[hx])
  have ha:=h a (by simp)
  have ha2:=a.toNat_lt
  simp only[List.cons_append,dval]
  by_cases hD:dval (l ++ [b])=0
  ·have h0:=dval_zero hb hD
   rw[hD,Nat.mul_zero,Gxp,Kp (by omega)]
   constructor
   ·intro e
    have:=congrArg List.length e
    simp at this
   ·intro e
    rcases e with e | e
    ·cases e
    ·exact absurd h0 e
  ·have hm:(a.toNat%128+128*dval (l ++ [b]))%128=a.toNat%128:=by omega
   have hq:(a.toNat%128+128*dval (l ++ [b]))/128=dval (l ++ [b]):=by omega
   have ha3:UInt8.ofNat (a.toNat%128+128)=a:=by
    rw[show a.toNat%128+128=a.toNat by omega,UInt8.ofNat_toNat]
   rw[varN_big (by omega),hm,hq,ha3]
   simp only[List.cons.injEq,true_and]
   rw[ih]
   constructor
   ·intro e
    rcases e with rfl | e
    ·refine .inr fun e=>hD ?_
     simp[dval,e]
    ·exact .inr e
   ·intro e
    rcases e with e | e
    ·cases e
    ·exact .inr e
theorem extract_list (s:ByteArray) (p q:Nat):(s.extract p q).data.toList=(s.data.toList.drop p).take (q-p):=by
 rw[ByteArray.data_extract,Array.toList_extract]
theorem extract_bytes (s:ByteArray) (p k:Nat):s.extract p (p+k)=bs (bytesL s p k):=by
 rw[←bs_of (s.extract p (p+k)),extract_list,show p+k-p=k by omega]
 rfl
theorem S_DecodeVarint (s:ByteArray) (p:Int) (hs:s.size≤1099511627776) (hp:I64 p):Con Tryz.prog 291 [] [astr s,ai p] [] (dvR (decVar s p)):=by
 obtain⟨hp1,hp2⟩:=hp
 by_cases hneg:p<0
 ·have hb1:decide (p<0)=true:=Gqb hneg
  rw[show decVar s p=none by rw[decVar,if_neg (by omega)]]
  refine Con.of Tryz.func291 J Tryz.ntmps291 J (fun E => ?_)
  refine Wz [1,60,80,17,1,60,72,31] ?_
  exact Xl J J J J (Xw [] (by decide) J J J)
 have hb1:decide (p<0)=false:=Gqa hneg
 by_cases hbig:(s.size:Int)≤p
 ·have hb2:decide (p<(s.size:Int))=false:=Gqa (by omega)
  rw[show decVar s p=none by rw[decVar,if_neg (by omega)]]
  refine Con.of Tryz.func291 J Tryz.ntmps291 J (fun E => ?_)
  refine Wz [1,60,101,103] ?_;refine Xf (fun m st=>∃ k:Nat,k+m=1∧(True)∧st=(⟨_,[(0,S s),(1,I p),(8,I k)],[]⟩:St)) (1) ⟨_,⟨0,by omega,trivial,J⟩,Xy [] (by kernel_rfl)⟩ ?_
  rintro m_A _ ⟨k,hk_A,hp_A,rfl⟩
  have hkz:k=0∨k=1:=by omega
  have hb3:decide ((k:Int)<6)=true:=Gqb (by omega)
  refine Wz [69,108,22,26,126,2,108,28,0,91,118,15,79,16,1,60,52] ?_
  exact Xl J J J J (Xw [] (by decide) J J J)
 obtain⟨q,rfl⟩:∃ q:Nat,p=q:=⟨p.toNat,by omega⟩
 have hb2:decide ((q:Int)<(s.size:Int))=true:=Gqb (by omega)
 rw[show decVar s q=dvGo s q 0 0 6 by rw[decVar,if_pos (by omega)]; rfl]
 refine Con.of Tryz.func291 J Tryz.ntmps291 J (fun E => ?_)
 refine Wz [1,60,101,103] ?_;refine Xf (fun m__ st=>∃ (k:Nat) (n:Nat),6-k=m__∧(k≤6∧q+k≤s.size∧(∀ a∈bytesL s q k,128≤a.toNat)∧n=dval (bytesL s q k)∧dvGo s q n k (6-k)=dvGo s q 0 0 6)∧st=(⟨_,[(0,S s),(1,I q),(7,I n),(8,I k)],[]⟩:St)) _ ⟨_,⟨0,0,J,⟨by omega,by omega,by simp[bytesL],by simp[bytesL,dval],J⟩,J⟩,Xy [] (by kernel_rfl)⟩ ?_
 rintro m_A _ ⟨k,n,hk_A,hp_A,rfl⟩
 obtain⟨hk6,hqk,hall,hn,hgo⟩:=hp_A
 have hlen:(bytesL s q k).length=k:=by
  have:s.data.toList.length=s.size:=by simp
  simp[bytesL]; omega
 have hn1:=dval_lt (bytesL s q k)
 rw[←hn,hlen] at hn1
 obtain⟨M,hM,hM1,hM2⟩:=pow7 hk6
 have hMs:=pow7s k
 rw[hM] at hn1 hMs
 rw[←hgo]
 refine Wz [69,153,0,163,235] ?_;refine zx (Qt.grdT J J J (.hit (.hit .stop)) (fun hgrd=>Zx J J J)) J ?_;refine zx (Qt.grdT J J J (.hit (.hit (.hit .stop))) (fun hgrd=>Qr J J J J (by assumption))) J ?_;refine Wz [49,0,163,235] ?_;refine zx (Qt.grdT J J J (.hit (.hit .stop)) (fun hgrd=>Qs J J J J (by omega))) J ?_;refine zx (Qt.grdT J J J (.hit (.hit (.hit .stop))) (fun hgrd=>Qa J J J)) J ?_;refine zx (Qt.grdT J J J (.hit (.hit (.hit (.hit .stop)))) (fun hgrd=>Zx J J J)) J ?_;refine zx (Qt.grdT J J J (.hit (.hit (.hit (.hit (.hit .stop))))) (fun hgrd=>Z1 J J J J)) J ?_;refine Wz [49,4] ?_
 refine Q9 J (fun h => ?_) (fun h => ?_)
 ·simp only[Gqk,decide_eq_true_eq] at h
  have hlt:q+k<s.size:=by omega
  obtain⟨f,hf⟩:∃ f,6-k=f+1:=⟨5-k,by omega⟩
  obtain⟨b,hb,hcb⟩:=bytesL_succ hlt
  obtain⟨c,hc⟩:∃ c:Nat,b.toNat=c:=⟨_,rfl⟩
  rw[hc] at hcb
  have hcr:=byteAt_lt s (q+k)
  rw[hcb] at hcr
  have hc1:byteAt s ((q:Int)+(k:Int)).toNat=(c:Int):=by rw[←hcb]; congr 1
  obtain⟨d,hd⟩:∃ d:Nat,c%128=d:=⟨_,rfl⟩
  have hd1:(c:Int).toNat &&& (127:Int).toNat=d:=by
   rw[show (127:Int).toNat=2 ^ 7-1 from rfl,Gxt]
   exact hd
  obtain⟨r,hr⟩:∃ r:Nat,d*M=r:=⟨_,rfl⟩
  have hr2:r≤127*M:=by rw[←hr]; exact Gxi _ (by omega)
  have hr1:(d:Int)*2 ^ (7*(k:Int)).toNat=(r:Int):=by rw[pow7i,hM,←hr]; norm_cast
  have hor:(n:Int).toNat ||| (r:Int).toNat=n+r:=or_add hM hn1 hr
  have hval:n+r=dval (bytesL s q (k+1)):=by rw[hb,dval_snoc,hlen,hM,hc,hd,hr,←hn]
  have hgo1:dvGo s q n k (f+1)=if 128≤(c:Int) then dvGo s q ((n+r:Nat):Int) (k+1) f else if ((c:Int)=0∧0<k)∨1099511627775<((n+r:Nat):Int) then none else some (((n+r:Nat):Int),k+1):=by
   have h9:(n:Int)+(c:Int)%128*2 ^ (7*k)=((n+r:Nat):Int):=by
    rw[show (c:Int)%128=d by omega,←hr,←hM]
    norm_cast
   rw[dvGo,if_pos hlt,hcb,h9]
  rw[hf,hgo1]
  by_cases h7:128≤(c:Int)
  ·have hb7:decide ((c:Int)<128)=false:=Gqa (by omega)
   refine Wz [6,7,131,8,183,237,238,0,171,239,252,5,157,8,183,32,58] ?_
   refine⟨_,(by omega),_,⟨k+1,n+r,rfl,⟨by omega,by omega,by rw[hb]; intro a ha; rcases Gqs.1 ha with ha | ha; exact hall a ha; simp only[List.mem_singleton] at ha; rw[ha]; omega,hval,by rw[if_pos h7,show 6-(k+1)=f by omega]⟩,rfl⟩,Xy [] (by kernel_rfl)⟩
  have hb7:decide ((c:Int)<128)=true:=Gqb (by omega)
  rw[if_neg h7]
  have hcan:=canon (b:=b) (by omega) (bytesL s q k) hall
  rw[←hb,←hval] at hcan
  have hle:=Yj ((n+r:Nat):Int)
  have hex:=extract_bytes s q (k+1)
  have hnil:bytesL s q k = []↔k=0:=by rw[←List.length_eq_zero_iff,hlen]
  have hne:bytesL s q (k+1) ≠ []:=by rw[hb]; simp
  have hex1:s.extract ((q:Int)).toNat ((q:Int)+(k:Int)+1).toNat=bs (bytesL s q (k+1)):=by rw[←hex]; congr 1
  have hiff:bs (encVar ((n+r:Nat):Int))=bs (bytesL s q (k+1))↔¬(((c:Int)=0∧0<k)∨1099511627775<((n+r:Nat):Int)):=by
   rw[bs_inj,encVar]
   split
   ·rename_i h5
    rw[show (((n+r:Nat):Int)).toNat=n+r by omega,hcan,hnil]
    omega
   ·exact⟨fun e=>absurd e.symm hne,fun e=>by omega⟩
  by_cases h8:((c:Int)=0∧0<k)∨1099511627775<((n+r:Nat):Int)
  ·rw[if_pos h8]
   have hb8:decide (bs (encVar ((n+r:Nat):Int))≠s.extract ((q:Int)).toNat ((q:Int)+(k:Int)+1).toNat)=true:=Gqb (by rw[hex1]; exact fun e=>hiff.1 e h8)
   refine Wz [6,7,131,8,183,237,238,0,171,239,252,5,157,8,183,170,20,20] ?_;refine Xe u8_6 u8_7 u8_8 J (DR.s (Qa J J J) J J ?_);refine DR.s (Qj J J (Xu ((n+r:Nat):Int)) J) J J ?_;refine Wz [11,11,11,11,175,175] ?_;refine DR.s (q_sslice J J J J J (by omega)) J J ?_;refine Wz [181,12,17,1,60,72,82,139,31] ?_
   exact Xl J J J J (Xw [] (by decide) J J J)
  ·rw[if_neg h8]
   have hb8:decide (bs (encVar ((n+r:Nat):Int))≠s.extract ((q:Int)).toNat ((q:Int)+(k:Int)+1).toNat)=false:=Gqa (by rw[hex1]; exact fun e=>e (hiff.2 h8))
   refine Wz [6,7,131,8,183,237,238,0,171,239,252,5,157,8,183,170,20,20] ?_;refine Xe u8_6 u8_7 u8_8 J (DR.s (Qa J J J) J J ?_);refine DR.s (Qj J J (Xu ((n+r:Nat):Int)) J) J J ?_;refine Wz [11,11,11,11,175,175] ?_;refine DR.s (q_sslice J J J J J (by omega)) J J ?_;refine Wz [181,12,54,7,8,60,72,137] ?_
   exact Xl J J J J (Xw [] (by decide) J J J)
 ·simp only[Bool.and_true,Gxf,decide_eq_false_iff_not] at h
  rw[show dvGo s q n k (6-k)=none by
   cases hf:6-k with
   |zero=>rfl
   |succ f=>rw[dvGo,if_neg (by omega)]]
  refine Wz [16,1,60,52] ?_
  exact Xl J J J J (Xw [] (by decide) J J J)
end
section
open Go.RowKit

@[reducible] def mX (x:TMatch) (a b c d e f g h i:V1):List V1 := [a,jn x.Seed,jn x.Delay,b,c,d,e,f,jn x.Clock,g,h,i,jn x.Bad]
@[reducible] def mC (x:TMatch) (n:Nat):List V1:=mX x (.ref n) (.ref (n+1)) (.ref (n+2)) (.ref (n+3)) (.ref (n+4)) (.ref (n+5)) (.ref (n+6)) (.ref (n+7)) (.ref (n+8))
@[reducible] def mR (x:TMatch) (l:List Ob):List Ob := .row 1 (els x.Level.Rows) :: .row 1 (els x.Scripts) :: .row 23 (els x.Peers) :: .row 1 (els x.Wires) :: .row 1 (els x.Paces) :: .row 1 (els x.Acks) :: .row 6 (els x.Watchers) :: .row 10 (els x.Lines) :: .row 2 (els x.Alarms)::l
end
section
open Go.RowKit

theorem Wk.nilbox {st:St} {p i:Nat} (k:Nat) {cs:List V1} {qs:List Nat} (hp:st.objs[p]? = some (.box cs)) (hc:cs[i]? = some (.rd qs (.v (.slice none 0 0)))):Wk st ⟨st.n,st.tmps,(st.objs.set p (.box (cs.set i (.ref st.objs.length)))) ++ [.row k []]⟩:=by
 intro w H F a h
 have hnil:H st.objs.length = .nil:=by
  have:=h.obs st.objs.length
  simpa[Gqf,RB] using this
 have hlt:=Yr hp
 obtain⟨H',hH'⟩:∃ H':Hs,H'=H.put st.objs.length (.ow (.sl k []) (.slice none 0 0) []):=⟨_,rfl⟩
 have hin:H' st.objs.length = .ow (.sl k []) (.slice none 0 0) []:=by rw[hH']; exact Hs.put_self _ _ _
 have hout:∀ q,q≠st.objs.length→H' q=H q:=fun q hq=>by rw[hH']; exact Hs.put_ne _ _ hq
 have hfp:∀ q,(H' q).fp=(H q).fp:=fun q=>by
  by_cases e:q=st.objs.length
  ·rw[e,hin,hnil]; rfl
  ·rw[hout q e]
 have hgh:∀ q i v,H' q = .gh i v→∃ r,H r = .gh i v:=fun q i v hq=>by
  by_cases e:q=st.objs.length
  ·rw[e,hin] at hq; cases hq
  ·exact⟨q,by rw[←hout q e]; exact hq⟩
 have hgr:Grow w H F w H' F:=⟨Below.refl _ _,fun q hq=>hout q fun e=>hq (by rw[e]; exact hnil),fun _ h=>h,fun _ h => .inl h,fun q hq b hb=>by rw[hfp,hq] at hb; simp[Pc.fp] at hb,hgh⟩
 refine⟨H',⟨⟨fun q => ?_,fun q=>by rw[hfp]; exact h.ok.nodup q,fun q r b h1 h2=>by rw[hfp] at h1 h2; exact h.ok.disj q r b h1 h2,fun q b h1=>by rw[hfp] at h1; exact h.ok.free q b h1,h.ok.flt⟩,fun q => ?_,fun e=>hgr.rv (h.tmp e),h.size,h.defers⟩,fun q b hb=>⟨q,by rw[←hfp]; exact hb⟩,hgh⟩
 ·by_cases e:q=st.objs.length
  ·rw[e,hin]; exact OW.nil _
  ·rw[hout q e]; exact h.ok.says q
 ·show RB w H' F q ((st.objs.set p (.box (cs.set i (.ref st.objs.length))) ++ [Ob.row k []]).getD q .gone)
  by_cases e:q=st.objs.length
  ·rw[show (st.objs.set p (.box (cs.set i (.ref st.objs.length))) ++ [Ob.row k []]).getD q .gone = .row k [] by simp[Gqf,e]]
   exact⟨_,_,by rw[e]; exact hin⟩
  ·rcases Gqq q st.objs.length with h1 | h1
   ·by_cases hqp:q=p
    ·subst hqp
     rw[show (st.objs.set q (.box (cs.set i (.ref st.objs.length))) ++ [Ob.row k []]).getD q .gone = .box (cs.set i (.ref st.objs.length)) by simp[Gqf,Gq1,h1]]
     obtain⟨g,t,vs,e1,e2,e3,e4⟩:=h.bx hp
     have hb:=h.obs q
     rw[Yq hp] at hb
     obtain⟨g,t,vs,k1,k2,k3⟩:=hb
     refine⟨g,t,vs,(hout q e).trans k1,by simpa using k2,fun j c u h4 h5 => ?_⟩
     rw[List.getElem?_set] at h4
     split at h4
     ·rename_i hij
      subst hij
      split at h4
      ·simp only[Option.some.injEq] at h4
       subst h4
       have h6:=k3 i _ u hc h5
       obtain⟨h7,_⟩:=RO.plain h6.1
       exact⟨⟨_,_,by rw[hin,←h7]⟩,h6.2⟩
      ·cases h4
     ·have h6:=k3 j c u h4 h5
      exact⟨hgr.r1 h6.1,h6.2⟩
    ·rw[show (st.objs.set p (.box (cs.set i (.ref st.objs.length))) ++ [Ob.row k []]).getD q .gone=st.objs.getD q .gone by
      rw[Gqf,Gq1 (by simpa using h1),Gq8 (Ne.symm hqp),Gqf]]
     by_cases hn:H q = .nil
     ·have h2:=h.obs q
      have h3:H' q = .nil:=(hout q e).trans hn
      cases ho:st.objs.getD q .gone with
      |gone=>exact h3
      |hole=>trivial
      |box cs=>rw[ho] at h2; obtain⟨a,t,vs,e,_⟩:=h2; rw[hn] at e; cases e
      |row k es=>rw[ho] at h2; obtain⟨v,fp,e⟩:=h2; rw[hn] at e; cases e
      |gh i x=>rw[ho] at h2; obtain⟨v,e,_⟩:=h2; rw[hn] at e; cases e
      |lk x y=>rw[ho] at h2; obtain⟨v,e,_⟩:=h2; rw[hn] at e; cases e
     ·exact hgr.rb hn (h.obs q)
   ·rw[show (st.objs.set p (.box (cs.set i (.ref st.objs.length))) ++ [Ob.row k []]).getD q .gone=Ob.gone by
     rw[Gqf,List.getElem?_eq_none (by simp; omega)]; rfl]
    refine (hout q e).trans ?_
    have:=h.obs q
    simpa[Gqf,RB,h1] using this
section
variable {P:Program} {ops:Array Oper} {o:Oper} {st:St} {m:Nat} {t e:TypeId} {y z:Operand} {zs:List Value} {by_:Nat}
theorem Zj [hm:TyMake P t e zs by_] (ho:o.op = .buildSlice t 0 #[]) (hg:o.guard=none) (hz0:zs.isEmpty=false):Qt P ops o st (.o (.c (.sb m 0 zs.length))) [.box []] m :=
 .new hg fun a w H F hr hn=>by
  obtain⟨inf,hi,hzz⟩:=Option.map_eq_some_iff.1 hm.info
  refine⟨.slice (some ⟨w.heap.size,0,none⟩) 0 0,w.alloc (.cells #[] e),.box w.heap.size e [],?_,(Below.refl _ _).alloc (Gqj _) _,heap_alloc_new w _,by simp[Pc.fp,Pc.ng],fun b hb=>by simp[Pc.fp] at hb; omega,fun H' hgr hq=>⟨⟨_,_,_,hq,J,fun i c u h4 h5=>by simp at h4⟩,_,_,_,hq,by simp,Gxh _,J⟩⟩
  unfold execOp
  simp[ho,Instr.buildSlice,run_underlying hm.slice,Go.sizeOf,typeInfo,hi,Instr.fill,newRow]
  rw[show (Array.range 0).map (fun _:Nat=>(default:Value))=#[] from Array.eq_empty_of_size_eq_zero (by simp)]
theorem run_append_z {tx ty:TypeId} [hm:TyMake P t e zs by_] {w:World} (A:Option Addr) {x:Value} {n:Nat} {news:List Value} (hsrc:Src P zs.length tx x n news w) (hn:0<n) (hb:n*by_≤140737488355328) (h63:n≤9223372036854775807) :
  (Builtin.append_ #[t,tx] ty #[.slice A 0 0,x]).run P w=(Builtin.append_ #[t,tx] ty #[.slice none 0 0,x]).run P w:=by
 obtain⟨i,hi,hzz⟩:=Option.map_eq_some_iff.1 hm.info
 simp only[Prod.mk.injEq] at hzz
 obtain⟨hz1,hs,hb1⟩:=hzz
 obtain⟨z,hz2,hz3⟩:=Option.map_eq_some_iff.1 hz1
 have hsrc:Src P i.size tx x n news w:=by rw[hs]; exact hsrc
 have h0:((0+n:Nat):Int)≤9223372036854775807:=by omega
 rw[run_append_grow_src (P:=P) (w:=w) t tx ty e i z hm.slice hi hz2 A 0 0 [] (by cases A <;> simp[Builtin.firstCells,loadCells,loadCellsFrom]) x n news hsrc (by omega) h0 (growslice_fits (by omega) (by rw[hb1]; simpa using hb)),
  run_append_grow_src (P:=P) (w:=w) t tx ty e i z hm.slice hi hz2 none 0 0 [] (by simp[Builtin.firstCells]) x n news hsrc (by omega) h0 (growslice_fits (by omega) (by rw[hb1]; simpa using hb))]
theorem src_any [hm:TyMake P t e zs by_] {w:World} {H:Hs} {F:Nat→Prop} {a:Act} (h:R0 w H F st a) {es':List (List T)} {x:V1} {u:Value} {kk:Nat} (hkz:kk=zs.length) (hz0:zs ≠ []) (hx:R1 w H F x u) (hs:srcOf st.objs x=some es') (hpl:plainT es') (hkk:∀ e∈es',e.length=kk):Src P kk t u es'.length (flatV (plainV' es') es'.length kk) w:=by
 obtain⟨A,c,rfl,hsrc⟩:=src_form h hx hs
 have hcell:∀ i j (hi:i<es'.length) (hj:j<kk),∃ b o',A=some ⟨b,o',none⟩∧w.cell? ⟨b,o'+i*kk+j,none⟩=some (plainV' es' i j)∧(plainV' es' i j).oneCell'=true:=by
  intro i j hi hj
  have h6:=Gqg hi
  obtain⟨b,o',k,hA,hp,hk,hc⟩:=hsrc i _ h6
  have h7:k=kk:=by rw[←hk,hkk _ (Gqd hi)]
  subst h7
  have h8:j<(es'[i]).length:=by omega
  obtain⟨u',h9,h10⟩:=hc j _ (Gqg h8)
  obtain⟨u'',h11⟩:=hpl _ (Gqd hi) _ (Gqd h8)
  rw[h11] at h10
  obtain⟨rfl,h12⟩:=RO.plain h10
  rw[plainV'_at h6 (by rw[Gqg h8,h11])]
  exact⟨b,o',hA,h9,h12⟩
 refine src_slice (zs:=zs) es' (plainV' es') A c (fun hne => ?_) fun i j hi hj=>by obtain⟨_,_,_,_,h⟩:=hcell i j hi hj; exact h
 have hl:0<es'.length:=Gxl.2 hne
 have hk0:0<kk:=by rw[hkz]; exact Gxl.2 hz0
 obtain⟨b,o',hA,_⟩:=hcell 0 0 hl hk0
 refine⟨b,o',hA,fun i j hi hj => ?_⟩
 obtain⟨b',o'',hA',h1,_⟩:=hcell i j hi hj
 rw[hA] at hA'
 simp only[Option.some.injEq,Addr.mk.injEq] at hA'
 obtain⟨rfl,rfl,_⟩:=hA'
 exact h1

theorem q_appz {ps:List Nat} {q kk:Nat} {es':List (List T)} [hm:TyMake P t e zs by_] (ho:o.op = .call { callee := .builtin .append,args:=#[y,z],argTypes:=#[t,t] }) (hg:o.guard=none) (hy:st.ev y = .o (.c (.sb q 0 kk))) (hz:st.ev z = .o (.c (.rd ps (.sl kk es')))) (hkz:kk=zs.length) (hz0:zs.isEmpty=false)
  (hpl:plainT es') (hkk:∀ e∈es',e.length=kk) (hpos:0<es'.length) (hb:es'.length*by_≤140737488355328) (h63:es'.length≤9223372036854775807):Qt P ops o st (.o (.c (.ref m))) [.row kk es'] m :=
 .new hg fun a w H F hr hn=>by
  have hzn:zs ≠ []:=by intro e; rw[e] at hz0; cases hz0
  subst hkz
  obtain⟨g,tt,vs,b1,b2,b3,b4⟩:=hr.v1 hy
  obtain⟨w1,hw1⟩:∃ w1,w1=w:=⟨_,rfl⟩
  have hs:srcOf st.objs (.rd ps (.sl zs.length es'))=some es':=rfl
  obtain⟨v',w',fp'',hr1,h3,h4,h5,h6⟩:=X5 (P:=P) (o:=o) (t:=t) (kk:=zs.length) (es := []) hr (OW.nil _) List.nodup_nil rfl hzn (hr.v1 hz) hs hpl hkk (by simpa using hb) (by simpa using h63)
  have hbel:Below w.heap.size w w':=⟨h6.os,h6.tape,h6.output,h6.size,fun b hb=>h6.block b hb (by simp)⟩
  refine⟨v',w',.ow (.sl zs.length es') v' fp'',?_,hbel,h3,⟨h4,trivial⟩,fun b hb=>(h5 b hb).resolve_left (by simp),fun H' hgr hq=>⟨⟨_,_,hq⟩,_,_,hq⟩⟩
  refine Yn ho ?_
  have h7:=src_any (P:=P) (t:=t) (e:=e) (by_:=by_) (kk:=zs.length) hr rfl hzn (hr.v1 hz) hs hpl hkk
  rw[b4,run_append_z (P:=P) (some ⟨g,0,none⟩) h7 hpos hb h63]
  exact hr1
end
end
end Go.Proofs.YtoecjaohdnoenaaGreat
