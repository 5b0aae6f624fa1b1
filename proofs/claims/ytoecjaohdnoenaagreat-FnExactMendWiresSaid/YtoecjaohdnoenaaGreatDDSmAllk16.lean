/-
  Rules, data and contracts of functions: part 17 of the proof.
  Conditions: those that each theorem names.
-/
import Derived.Test.YtoecjaohdnoenaaGreatDDSmAllk15
set_option linter.unusedVariables false
set_option linter.unusedSimpArgs false
set_option maxRecDepth 8000
set_option maxHeartbeats 8000000
namespace Go.Proofs.YtoecjaohdnoenaaGreat
section
open Go.RowKit

structure TFlight where
 At:Int
 Data:ByteArray
 deriving DecidableEq
instance:Enc TFlight:=⟨2,by omega,fun x => [.v (.int .i64 x.At),.v (.string x.Data)],fun _=>rfl,fun x=>Enc.gd x.At∧Enc.gd x.Data,fun x=>Enc.wt x.Data⟩
theorem TFlight.same {x y:TFlight} (h0:x.At=y.At) (h1:x.Data=y.Data):x=y:=by cases x; cases y; simp_all
structure TWire where
 Seed:Int
 Delay:Int
 Jitter:Int
 Loss:Int
 Copies:Int
 Damage:Int
 Now:Int
 Flights:(List TFlight)
 Sent:Int
 Lost:Int
 deriving DecidableEq
instance:Enc TWire:=⟨10,by omega,fun x => [.v (.int .i64 x.Seed),.v (.int .i64 x.Delay),.v (.int .i64 x.Jitter),.v (.int .i64 x.Loss),.v (.int .i64 x.Copies),.v (.int .i64 x.Damage),.v (.int .i64 x.Now),sl x.Flights,.v (.int .i64 x.Sent),.v (.int .i64 x.Lost)],fun _=>rfl,fun x=>Enc.gd x.Seed∧Enc.gd x.Delay∧Enc.gd x.Jitter∧Enc.gd x.Loss∧Enc.gd x.Copies∧Enc.gd x.Damage∧Enc.gd x.Now∧Enc.gd x.Flights∧Enc.gd x.Sent∧Enc.gd x.Lost,fun x=>Enc.wt x.Flights⟩
theorem TWire.same {x y:TWire} (h0:x.Seed=y.Seed) (h1:x.Delay=y.Delay) (h2:x.Jitter=y.Jitter) (h3:x.Loss=y.Loss) (h4:x.Copies=y.Copies) (h5:x.Damage=y.Damage) (h6:x.Now=y.Now) (h7:x.Flights=y.Flights) (h8:x.Sent=y.Sent) (h9:x.Lost=y.Lost):x=y:=by cases x; cases y; simp_all
structure TPace where
 Newest:Int
 Their:Int
 At:Int
 Trip:Int
 Samples:Int
 deriving DecidableEq
instance:Enc TPace:=⟨5,by omega,fun x => [.v (.int .i64 x.Newest),.v (.int .i64 x.Their),.v (.int .i64 x.At),.v (.int .i64 x.Trip),.v (.int .i64 x.Samples)],fun _=>rfl,fun x=>Enc.gd x.Newest∧Enc.gd x.Their∧Enc.gd x.At∧Enc.gd x.Trip∧Enc.gd x.Samples,fun x=>0⟩
theorem TPace.same {x y:TPace} (h0:x.Newest=y.Newest) (h1:x.Their=y.Their) (h2:x.At=y.At) (h3:x.Trip=y.Trip) (h4:x.Samples=y.Samples):x=y:=by cases x; cases y; simp_all
structure TAlarm where
 Tick:Int
 Parts:(List ByteArray)
 deriving DecidableEq
instance:Enc TAlarm:=⟨2,by omega,fun x => [.v (.int .i64 x.Tick),sl x.Parts],fun _=>rfl,fun x=>Enc.gd x.Tick∧Enc.gd x.Parts,fun x=>Enc.wt x.Parts⟩
theorem TAlarm.same {x y:TAlarm} (h0:x.Tick=y.Tick) (h1:x.Parts=y.Parts):x=y:=by cases x; cases y; simp_all
structure TMatch where
 Level:TLevel
 Seed:Int
 Delay:Int
 Scripts:(List (List Int))
 Peers:(List TPeer)
 Wires:(List (List TWire))
 Paces:(List (List TPace))
 Acks:(List (List Int))
 Clock:Int
 Watchers:(List TSpectator)
 Lines:(List TWire)
 Alarms:(List TAlarm)
 Bad:Int
 deriving DecidableEq
instance:Enc TMatch:=⟨13,by omega,fun x => [sl x.Level.Rows,.v (.int .i64 x.Seed),.v (.int .i64 x.Delay),sl x.Scripts,sl x.Peers,sl x.Wires,sl x.Paces,sl x.Acks,.v (.int .i64 x.Clock),sl x.Watchers,sl x.Lines,sl x.Alarms,.v (.int .i64 x.Bad)],fun _=>rfl,fun x=>Enc.gd x.Level∧Enc.gd x.Seed∧Enc.gd x.Delay∧Enc.gd x.Scripts∧Enc.gd x.Peers∧Enc.gd x.Wires∧Enc.gd x.Paces∧Enc.gd x.Acks∧Enc.gd x.Clock∧Enc.gd x.Watchers∧Enc.gd x.Lines∧Enc.gd x.Alarms∧Enc.gd x.Bad,fun x=>Enc.wt x.Level+Enc.wt x.Scripts+Enc.wt x.Peers+Enc.wt x.Wires+Enc.wt x.Paces+Enc.wt x.Acks+Enc.wt x.Watchers+Enc.wt x.Lines+Enc.wt x.Alarms⟩
theorem TMatch.same {x y:TMatch} (h0:x.Level=y.Level) (h1:x.Seed=y.Seed) (h2:x.Delay=y.Delay) (h3:x.Scripts=y.Scripts) (h4:x.Peers=y.Peers) (h5:x.Wires=y.Wires) (h6:x.Paces=y.Paces) (h7:x.Acks=y.Acks) (h8:x.Clock=y.Clock) (h9:x.Watchers=y.Watchers) (h10:x.Lines=y.Lines) (h11:x.Alarms=y.Alarms) (h12:x.Bad=y.Bad):x=y:=by cases x; cases y; simp_all

theorem sz_Flight (x:TFlight) (left:Int) (hg:Enc.gd x) (h0:0≤left) (h1:left≤1048576):Con Tryz.prog 151 [] [ag x,ai left] [] (I (szr (Enc.wt x) left)):=by
 obtain⟨g_At,g_Data⟩:=hg
 have hw:Enc.wt x=Enc.wt x.Data:=rfl
 have hm1:decide ((-1:Int)<0)=true:=rfl
 have hgd_Data:x.Data.size≤9223372036854775807:=g_Data
 have hs_Data:Enc.wt x.Data=x.Data.size:=rfl
 by_cases n_Data:left-(x.Data.size:Int)<0
 ·have hb:decide (left-(x.Data.size:Int)<0)=true:=Gqb n_Data
  refine Con.of Tryz.func151 J Tryz.ntmps151 J (fun E => ?_)
  refine Wz [19,8,14,146,103,106,21] ?_
  exact Xi J J (Xt [] (by decide) J J (Xk (by rw[Z4 (by omega)])))
 have hb_Data:decide (left-(x.Data.size:Int)<0)=false:=Gqa n_Data
 refine Con.of Tryz.func151 J Tryz.ntmps151 J (fun E => ?_)
 refine Wz [19,8,14,146,103,48,141] ?_
 exact Xi J J (Xt [] (by decide) J J (Xk (by rw[Z5 (by omega)]; omega)))
theorem to_Flight (x:TFlight) (hg:Enc.wt x≤1048576):Con Tryz.prog 159 [] [ag x] (ownO (Enc.e x)) (.o (.ag (ownV 0 (Enc.e x)))):=by
 have hw:Enc.wt x=Enc.wt x.Data:=rfl
 refine Con.of Tryz.func159 J Tryz.ntmps159 J (fun E => ?_)
 refine Wz [101,60,4,60,35,43,75,25,22,68] ?_
 exact Xh J J J J (Xt [] (by decide) J J J)
theorem eq_Flight (x y:TFlight) (hg:Enc.gd x):Con Tryz.prog 171 [] [ag x,ag y] [] (B (decide (x=y))):=by
 obtain⟨g_At,g_Data⟩:=hg
 by_cases e_At:¬x.At=y.At
 ·have hk:decide (x.At≠y.At)=true:=by simp[e_At]
  refine Con.of Tryz.func171 J Tryz.ntmps171 J (fun E => ?_)
  refine Wz [30,29] ?_
  exact Xi J J (Xt [] (by decide) J J (Xf (Gqa fun e=>e_At (by rw[e])).symm))
 have e_At:=Classical.not_not.1 e_At
 have k_At:decide (x.At≠y.At)=false:=by simp[e_At]
 by_cases e_Data:¬x.Data=y.Data
 ·have hk:decide (x.Data≠y.Data)=true:=by simp[e_Data]
  refine Con.of Tryz.func171 J Tryz.ntmps171 J (fun E => ?_)
  refine Wz [30,89,219,21] ?_
  exact Xi J J (Xt [] (by decide) J J (Xf (Gqa fun e=>e_Data (by rw[e])).symm))
 have e_Data:=Classical.not_not.1 e_Data
 have k_Data:decide (x.Data≠y.Data)=false:=by simp[e_Data]
 refine Con.of Tryz.func171 J Tryz.ntmps171 J (fun E => ?_)
 refine Wz [30,89,219,53,47] ?_
 exact Xi J J (Xt [] (by decide) J J (Xf (Gqb (TFlight.same e_At e_Data)).symm))
theorem to_Pace (x:TPace) (hg:Enc.wt x≤1048576):Con Tryz.prog 245 [] [ag x] (ownO (Enc.e x)) (.o (.ag (ownV 0 (Enc.e x)))):=by
 refine Con.of Tryz.func245 J Tryz.ntmps245 J (fun E => ?_)
 refine Wz [101,60,4,60,35,43,43,43,43,75,25,22,68] ?_
 exact Xh J J J J (Xt [] (by decide) J J J)
theorem eq_Pace (x y:TPace) (hg:Enc.gd x):Con Tryz.prog 230 [] [ag x,ag y] [] (B (decide (x=y))):=by
 obtain⟨g_Newest,g_Their,g_At,g_Trip,g_Samples⟩:=hg
 by_cases e_Newest:¬x.Newest=y.Newest
 ·have hk:decide (x.Newest≠y.Newest)=true:=by simp[e_Newest]
  refine Con.of Tryz.func230 J Tryz.ntmps230 J (fun E => ?_)
  refine Wz [30,29] ?_
  exact Xi J J (Xt [] (by decide) J J (Xf (Gqa fun e=>e_Newest (by rw[e])).symm))
 have e_Newest:=Classical.not_not.1 e_Newest
 have k_Newest:decide (x.Newest≠y.Newest)=false:=by simp[e_Newest]
 by_cases e_Their:¬x.Their=y.Their
 ·have hk:decide (x.Their≠y.Their)=true:=by simp[e_Their]
  refine Con.of Tryz.func230 J Tryz.ntmps230 J (fun E => ?_)
  refine Wz [30,89,29] ?_
  exact Xi J J (Xt [] (by decide) J J (Xf (Gqa fun e=>e_Their (by rw[e])).symm))
 have e_Their:=Classical.not_not.1 e_Their
 have k_Their:decide (x.Their≠y.Their)=false:=by simp[e_Their]
 by_cases e_At:¬x.At=y.At
 ·have hk:decide (x.At≠y.At)=true:=by simp[e_At]
  refine Con.of Tryz.func230 J Tryz.ntmps230 J (fun E => ?_)
  refine Wz [30,98,29] ?_
  exact Xi J J (Xt [] (by decide) J J (Xf (Gqa fun e=>e_At (by rw[e])).symm))
 have e_At:=Classical.not_not.1 e_At
 have k_At:decide (x.At≠y.At)=false:=by simp[e_At]
 by_cases e_Trip:¬x.Trip=y.Trip
 ·have hk:decide (x.Trip≠y.Trip)=true:=by simp[e_Trip]
  refine Con.of Tryz.func230 J Tryz.ntmps230 J (fun E => ?_)
  refine Wz [30,98,89,29] ?_
  exact Xi J J (Xt [] (by decide) J J (Xf (Gqa fun e=>e_Trip (by rw[e])).symm))
 have e_Trip:=Classical.not_not.1 e_Trip
 have k_Trip:decide (x.Trip≠y.Trip)=false:=by simp[e_Trip]
 by_cases e_Samples:¬x.Samples=y.Samples
 ·have hk:decide (x.Samples≠y.Samples)=true:=by simp[e_Samples]
  refine Con.of Tryz.func230 J Tryz.ntmps230 J (fun E => ?_)
  refine Wz [30,111,29] ?_
  exact Xi J J (Xt [] (by decide) J J (Xf (Gqa fun e=>e_Samples (by rw[e])).symm))
 have e_Samples:=Classical.not_not.1 e_Samples
 have k_Samples:decide (x.Samples≠y.Samples)=false:=by simp[e_Samples]
 refine Con.of Tryz.func230 J Tryz.ntmps230 J (fun E => ?_)
 refine Wz [30,111,105,53,47] ?_
 exact Xi J J (Xt [] (by decide) J J (Xf (Gqb (TPace.same e_Newest e_Their e_At e_Trip e_Samples)).symm))
theorem sz_Alarm (x:TAlarm) (left:Int) (hg:Enc.gd x) (h0:0≤left) (h1:left≤1048576):Con Tryz.prog 206 [] [ag x,ai left] [] (I (szr (Enc.wt x) left)):=by
 obtain⟨g_Tick,g_Parts⟩:=hg
 have hw:Enc.wt x=Enc.wt x.Parts:=rfl
 have hm1:decide ((-1:Int)<0)=true:=rfl
 have hc_Parts:=sz_StringS x.Parts (left) g_Parts (by omega) (by omega)
 by_cases n_Parts:left<Enc.wt x.Parts
 ·rw[Z4 n_Parts] at hc_Parts
  refine Con.of Tryz.func206 J Tryz.ntmps206 J (fun E => ?_)
  refine Wz [19,54] ?_;refine zx (Qj J J (hc_Parts) J) J ?_;refine Wz [106,21] ?_
  exact Xi J J (Xt [] (by decide) J J (Xk (by rw[Z4 (by omega)])))
 rw[Z5 (by omega)] at hc_Parts
 have hb_Parts:decide (left-Enc.wt x.Parts<0)=false:=Gqa (by omega)
 refine Con.of Tryz.func206 J Tryz.ntmps206 J (fun E => ?_)
 refine Wz [19,54] ?_;refine zx (Qj J J (hc_Parts) J) J ?_;refine Wz [48,141] ?_
 exact Xi J J (Xt [] (by decide) J J (Xk (by rw[Z5 (by omega)]; omega)))
theorem to_Alarm (x:TAlarm) (hg:Enc.wt x≤1048576):Con Tryz.prog 210 [] [ag x] (ownO (Enc.e x)) (.o (.ag (ownV 0 (Enc.e x)))):=by
 have hw:Enc.wt x=Enc.wt x.Parts:=rfl
 refine Con.of Tryz.func210 J Tryz.ntmps210 J (fun E => ?_)
 refine Wz [101,60,4,60,35,43] ?_;refine M1 (Za J J (to_StringS x.Parts (by omega)) J J J) J J ?_;refine Wz [75,25,22,68] ?_
 exact Xh J J J J (Xt [3] (by decide) J J J)
theorem eq_Alarm (x y:TAlarm) (hg:Enc.gd x):Con Tryz.prog 170 [] [ag x,ag y] [] (B (decide (x=y))):=by
 obtain⟨g_Tick,g_Parts⟩:=hg
 by_cases e_Tick:¬x.Tick=y.Tick
 ·have hk:decide (x.Tick≠y.Tick)=true:=by simp[e_Tick]
  refine Con.of Tryz.func170 J Tryz.ntmps170 J (fun E => ?_)
  refine Wz [30,29] ?_
  exact Xi J J (Xt [] (by decide) J J (Xf (Gqa fun e=>e_Tick (by rw[e])).symm))
 have e_Tick:=Classical.not_not.1 e_Tick
 have k_Tick:decide (x.Tick≠y.Tick)=false:=by simp[e_Tick]
 by_cases e_Parts:¬x.Parts=y.Parts
 ·have hc:=eq_StringS x.Parts y.Parts g_Parts
  rw[Gqa e_Parts] at hc
  refine Con.of Tryz.func170 J Tryz.ntmps170 J (fun E => ?_)
  refine Wz [30,89] ?_;refine zx (Qj J J (hc) J) J ?_;refine Wz [10,21] ?_
  exact Xi J J (Xt [] (by decide) J J (Xf (Gqa fun e=>e_Parts (by rw[e])).symm))
 have e_Parts:=Classical.not_not.1 e_Parts
 have hc_Parts:=eq_StringS x.Parts y.Parts g_Parts
 rw[Gqb e_Parts] at hc_Parts
 refine Con.of Tryz.func170 J Tryz.ntmps170 J (fun E => ?_)
 refine Wz [30,89] ?_;refine zx (Qj J J (hc_Parts) J) J ?_;refine Wz [85,47] ?_
 exact Xi J J (Xt [] (by decide) J J (Xf (Gqb (TAlarm.same e_Tick e_Parts)).symm))
end
section
open Go.RowKit

def inR (n lo hi:Int):Bool:=decide (lo≤n)&&decide (n≤hi)
theorem Yk {n lo hi:Int}:inR n lo hi=true↔lo≤n∧n≤hi:=by simp[inR]
theorem Xj (n lo hi:Int):Con Tryz.prog 137 [] [ai n,ai lo,ai hi] [] (B (inR n lo hi)):=by
 refine Con.of Tryz.func137 J Tryz.ntmps137 J (fun E => ?_)
 refine Wz [28,9,220,0,133,239,240,39,110] ?_
 exact Xi J J (Xt [] (by decide) J J J)
theorem Xs (n lo hi:Int):Con Tryz.prog 133 [] [ai n,ai lo,ai hi] [] (B (inR n lo hi)):=by
 refine Con.of Tryz.func133 J Tryz.ntmps133 J (fun E => ?_)
 refine Wz [28,9,220,0,133,239,240,39,110] ?_
 exact Xi J J (Xt [] (by decide) J J J)

section
variable {α:Type} {p:α→Bool} {xs:List α} {k:Nat}
theorem X0 (h:(xs.take k).all p=true) (hk:k<xs.length) (hp:p xs[k]=true):(xs.take (k+1)).all p=true:=by
 rw[Gxn hk,List.all_append,h]
 simp[hp]
theorem all_no (hk:k<xs.length) (hp:p xs[k]=false):xs.all p=false:=by
 rw[List.all_eq_false]
 exact⟨_,Gqd hk,by simp[hp]⟩
theorem Xz (h:(xs.take k).all p=true) (hk:xs.length≤k):xs.all p=true:=by rwa[Gqh hk] at h
end
def inOk (xs:List Int):Bool:=xs.all fun n=>inR n 0 15
def rowOk (xs:List Int) (n:Int):Bool:=decide ((xs.length:Int)=n)&&inOk xs

theorem I_inputsOk (xs:List Int) (hn:Enc.gd xs):Con Tryz.prog 228 [] [al xs] [] (B (inOk xs)):=by
 have hn1:=hn.1
 have hlx:=X6 xs
 refine Con.of Tryz.func228 J Tryz.ntmps228 J (fun E => ?_)
 refine Wz [84,80] ?_;refine Xe (fun m st=>∃ k:Nat,k+m=xs.length∧((xs.take k).all (fun n=>inR n 0 15)=true)∧st=(⟨_,[(5,L xs),(6,I (els xs).length),(7,I k)],[]⟩:St)) (xs.length) ⟨_,⟨0,by omega,by simp,J⟩,Xu [] (by kernel_rfl)⟩ ?_
 rintro m_A _ ⟨k,hk_A,hp_A,rfl⟩
 refine Wz [4,40,17] ?_
 refine Q8 J (fun h => ?_) (fun h => ?_)
 ·have h3:k<xs.length:=by have:=Gqc h; omega
  have hat:=X4 h3
  refine Wz [5,4,93,74] ?_;refine zx (Qj J J (Xj xs[k] 0 15) J) J ?_;refine Wz [10,1] ?_
  refine Q8 J (fun h4 => ?_) (fun h4 => ?_)
  ·refine Wz [61,160] ?_
   refine Wz [107] ?_
   exact Xi J J (Xt [] (by decide) J J (Xf (all_no h3 (by simpa using h4)).symm))
  ·refine Wz [113,94,36,0,118] ?_
   refine Qz ?_
   exact⟨xs.length-(k+1),by omega,_,⟨k+1,by omega,X0 hp_A h3 (by simpa using h4),J⟩,Xu [] (by kernel_rfl)⟩
 ·have h3:¬((k:Int)<(els xs).length):=Gqe h
  refine Wz [20,47] ?_
  exact Xi J J (Xt [] (by decide) J J (Xf (Xz hp_A (by omega)).symm))
theorem I_rowOk (xs:List Int) (n:Int) (hn:Enc.gd xs):Con Tryz.prog 196 [] [al xs,ai n] [] (B (rowOk xs n)):=by
 have hlx:=X6 xs
 refine Con.of Tryz.func196 J Tryz.ntmps196 J (fun E => ?_)
 refine Wz [28,8,114,172,0,133] ?_;refine zx (Qt.grdT J J J (.hit .stop) (fun hgrd=>Qj J J (I_inputsOk xs hn) J)) J ?_;refine Wz [39,110] ?_
 exact Xi J J (Xt [] (by decide) J J (Xf (by rw[hlx]; rfl)))
theorem S_rowOk (xs:List Int) (n:Int) (hn:Enc.gd xs):Con Tryz.prog 183 [] [al xs,ai n] [] (B (rowOk xs n)):=by
 have hn1:=hn.1
 have hlx:=X6 xs
 refine Con.of Tryz.func183 J Tryz.ntmps183 J (fun E => ?_)
 refine Wz [99] ?_;refine Xe (fun m st=>∃ k:Nat,k+m=xs.length∧((xs.take k).all (fun n=>inR n 0 15)=true)∧st=(⟨_,[(0,L xs),(1,I n),(5,I k)],[]⟩:St)) (xs.length) ⟨_,⟨0,by omega,by simp,J⟩,Xu [] (by kernel_rfl)⟩ ?_
 rintro m_A _ ⟨k,hk_A,hp_A,rfl⟩
 refine Wz [52] ?_
 refine Q8 J (fun h => ?_) (fun h => ?_)
 ·have h3:k<xs.length:=by have:=Gqc h; omega
  have hat:=X4 h3
  refine Wz [5,9,93] ?_;refine zx (Qj J J (Xs xs[k] 0 15) J) J ?_;refine Wz [10,1] ?_
  refine Q8 J (fun h4 => ?_) (fun h4 => ?_)
  ·refine Wz [61,160] ?_
   refine Wz [107] ?_
   exact Xi J J (Xt [] (by decide) J J (Xf (by unfold rowOk inOk; rw[all_no h3 (by simpa using h4)]; simp)))
  ·refine Wz [113,241,36] ?_
   refine Wz [7] ?_
   exact⟨xs.length-(k+1),by omega,_,⟨k+1,by omega,X0 hp_A h3 (by simpa using h4),J⟩,Xu [] (by kernel_rfl)⟩
 ·have h3:¬((k:Int)<(els xs).length):=Gqe h
  refine Wz [20,8,114,172,110] ?_
  exact Xi J J (Xt [] (by decide) J J (Xf (by unfold rowOk inOk; rw[Xz hp_A (by omega),hlx]; simp)))
end
section
open Go.RowKit
end
section
open Go.RowKit

@[reducible] def bv (b:Bool):V1 := .rd [] (.v (.bool b))
@[reducible] def jn (n:Int):V1 := .rd [] (.v (.int .i64 n))
end
section
open Go.RowKit

@[reducible] def mX (x:TMatch) (a b c d e f g h i:V1):List V1 := [a,jn x.Seed,jn x.Delay,b,c,d,e,f,jn x.Clock,g,h,i,jn x.Bad]
@[reducible] def mC (x:TMatch) (n:Nat):List V1:=mX x (.ref n) (.ref (n+1)) (.ref (n+2)) (.ref (n+3)) (.ref (n+4)) (.ref (n+5)) (.ref (n+6)) (.ref (n+7)) (.ref (n+8))
@[reducible] def mR (x:TMatch) (l:List Ob):List Ob := .row 1 (els x.Level.Rows) :: .row 1 (els x.Scripts) :: .row 23 (els x.Peers) :: .row 1 (els x.Wires) :: .row 1 (els x.Paces) :: .row 1 (els x.Acks) :: .row 6 (els x.Watchers) :: .row 10 (els x.Lines) :: .row 2 (els x.Alarms)::l
end
section
open Go.RowKit

theorem Wk.nilbox {st:St} {p i:Nat} (k:Nat) {cs:List V1} {qs:List Nat} (hp:st.objs[p]? = some (.box cs)) (hc:cs[i]? = some (.rd qs (.v (.slice none 0 0)))):Wk st ⟨st.n,st.tmps,(st.objs.set p (.box (cs.set i (.ref st.objs.length)))) ++ [.row k []]⟩:=by
 intro w H F a h
 have hnil:H st.objs.length = .nil:=by
  have:=h.obs st.objs.length
  simpa[Gqf,RB] using this
 have hlt:=Yh hp
 obtain⟨H',hH'⟩:∃ H':Hs,H'=H.put st.objs.length (.ow (.sl k []) (.slice none 0 0) []):=⟨_,rfl⟩
 have hin:H' st.objs.length = .ow (.sl k []) (.slice none 0 0) []:=by rw[hH']; exact Hs.put_self _ _ _
 have hout:∀ q,q≠st.objs.length→H' q=H q:=fun q hq=>by rw[hH']; exact Hs.put_ne _ _ hq
 have hfp:∀ q,(H' q).fp=(H q).fp:=fun q=>by
  by_cases e:q=st.objs.length
  ·rw[e,hin,hnil]; rfl
  ·rw[hout q e]
 have hgh:∀ q i v,H' q = .gh i v→∃ r,H r = .gh i v:=fun q i v hq=>by
  by_cases e:q=st.objs.length
  ·rw[e,hin] at hq; cases hq
  ·exact⟨q,by rw[←hout q e]; exact hq⟩
 have hgr:Grow w H F w H' F:=⟨Below.refl _ _,fun q hq=>hout q fun e=>hq (by rw[e]; exact hnil),fun _ h=>h,fun _ h => .inl h,fun q hq b hb=>by rw[hfp,hq] at hb; simp[Pc.fp] at hb,hgh⟩
 refine⟨H',⟨⟨fun q => ?_,fun q=>by rw[hfp]; exact h.ok.nodup q,fun q r b h1 h2=>by rw[hfp] at h1 h2; exact h.ok.disj q r b h1 h2,fun q b h1=>by rw[hfp] at h1; exact h.ok.free q b h1,h.ok.flt⟩,fun q => ?_,fun e=>hgr.rv (h.tmp e),h.size,h.defers⟩,fun q b hb=>⟨q,by rw[←hfp]; exact hb⟩,hgh⟩
 ·by_cases e:q=st.objs.length
  ·rw[e,hin]; exact OW.nil _
  ·rw[hout q e]; exact h.ok.says q
 ·show RB w H' F q ((st.objs.set p (.box (cs.set i (.ref st.objs.length))) ++ [Ob.row k []]).getD q .gone)
  by_cases e:q=st.objs.length
  ·rw[show (st.objs.set p (.box (cs.set i (.ref st.objs.length))) ++ [Ob.row k []]).getD q .gone = .row k [] by simp[Gqf,e]]
   exact⟨_,_,by rw[e]; exact hin⟩
  ·rcases Gqp q st.objs.length with h1 | h1
   ·by_cases hqp:q=p
    ·subst hqp
     rw[show (st.objs.set q (.box (cs.set i (.ref st.objs.length))) ++ [Ob.row k []]).getD q .gone = .box (cs.set i (.ref st.objs.length)) by simp[Gqf,Gqu,h1]]
     obtain⟨g,t,vs,e1,e2,e3,e4⟩:=h.bx hp
     have hb:=h.obs q
     rw[Yg hp] at hb
     obtain⟨g,t,vs,k1,k2,k3⟩:=hb
     refine⟨g,t,vs,(hout q e).trans k1,by simpa using k2,fun j c u h4 h5 => ?_⟩
     rw[List.getElem?_set] at h4
     split at h4
     ·rename_i hij
      subst hij
      split at h4
      ·simp only[Option.some.injEq] at h4
       subst h4
       have h6:=k3 i _ u hc h5
       obtain⟨h7,_⟩:=RO.plain h6.1
       exact⟨⟨_,_,by rw[hin,←h7]⟩,h6.2⟩
      ·cases h4
     ·have h6:=k3 j c u h4 h5
      exact⟨hgr.r1 h6.1,h6.2⟩
    ·rw[show (st.objs.set p (.box (cs.set i (.ref st.objs.length))) ++ [Ob.row k []]).getD q .gone=st.objs.getD q .gone by
      rw[Gqf,Gqu (by simpa using h1),Gq7 (Ne.symm hqp),Gqf]]
     by_cases hn:H q = .nil
     ·have h2:=h.obs q
      have h3:H' q = .nil:=(hout q e).trans hn
      cases ho:st.objs.getD q .gone with
      |gone=>exact h3
      |hole=>trivial
      |box cs=>rw[ho] at h2; obtain⟨a,t,vs,e,_⟩:=h2; rw[hn] at e; cases e
      |row k es=>rw[ho] at h2; obtain⟨v,fp,e⟩:=h2; rw[hn] at e; cases e
      |gh i x=>rw[ho] at h2; obtain⟨v,e,_⟩:=h2; rw[hn] at e; cases e
      |lk x y=>rw[ho] at h2; obtain⟨v,e,_⟩:=h2; rw[hn] at e; cases e
     ·exact hgr.rb hn (h.obs q)
   ·rw[show (st.objs.set p (.box (cs.set i (.ref st.objs.length))) ++ [Ob.row k []]).getD q .gone=Ob.gone by
     rw[Gqf,List.getElem?_eq_none (by simp; omega)]; rfl]
    refine (hout q e).trans ?_
    have:=h.obs q
    simpa[Gqf,RB,h1] using this
section
variable {P:Program} {ops:Array Oper} {o:Oper} {st:St} {m:Nat} {t e:TypeId} {y z:Operand} {zs:List Value} {by_:Nat}
theorem Y8 [hm:TyMake P t e zs by_] (ho:o.op = .buildSlice t 0 #[]) (hg:o.guard=none) (hz0:zs.isEmpty=false):Qt P ops o st (.o (.c (.sb m 0 zs.length))) [.box []] m :=
 .new hg fun a w H F hr hn=>by
  obtain⟨inf,hi,hzz⟩:=Option.map_eq_some_iff.1 hm.info
  refine⟨.slice (some ⟨w.heap.size,0,none⟩) 0 0,w.alloc (.cells #[] e),.box w.heap.size e [],?_,(Below.refl _ _).alloc (Gqj _) _,heap_alloc_new w _,by simp[Pc.fp,Pc.ng],fun b hb=>by simp[Pc.fp] at hb; omega,fun H' hgr hq=>⟨⟨_,_,_,hq,J,fun i c u h4 h5=>by simp at h4⟩,_,_,_,hq,by simp,Nat.zero_le _,J⟩⟩
  unfold execOp
  simp[ho,Instr.buildSlice,run_underlying hm.slice,Go.sizeOf,typeInfo,hi,Instr.fill,newRow]
  rw[show (Array.range 0).map (fun _:Nat=>(default:Value))=#[] from Array.eq_empty_of_size_eq_zero (by simp)]
theorem run_append_z {tx ty:TypeId} [hm:TyMake P t e zs by_] {w:World} (A:Option Addr) {x:Value} {n:Nat} {news:List Value} (hsrc:Src P zs.length tx x n news w) (hn:0<n) (hb:n*by_≤140737488355328) (h63:n≤9223372036854775807) :
  (Builtin.append_ #[t,tx] ty #[.slice A 0 0,x]).run P w=(Builtin.append_ #[t,tx] ty #[.slice none 0 0,x]).run P w:=by
 obtain⟨i,hi,hzz⟩:=Option.map_eq_some_iff.1 hm.info
 simp only[Prod.mk.injEq] at hzz
 obtain⟨hz1,hs,hb1⟩:=hzz
 obtain⟨z,hz2,hz3⟩:=Option.map_eq_some_iff.1 hz1
 have hsrc:Src P i.size tx x n news w:=by rw[hs]; exact hsrc
 have h0:((0+n:Nat):Int)≤9223372036854775807:=by omega
 rw[run_append_grow_src (P:=P) (w:=w) t tx ty e i z hm.slice hi hz2 A 0 0 [] (by cases A <;> simp[Builtin.firstCells,loadCells,loadCellsFrom]) x n news hsrc (by omega) h0 (growslice_fits (by omega) (by rw[hb1]; simpa using hb)),
  run_append_grow_src (P:=P) (w:=w) t tx ty e i z hm.slice hi hz2 none 0 0 [] (by simp[Builtin.firstCells]) x n news hsrc (by omega) h0 (growslice_fits (by omega) (by rw[hb1]; simpa using hb))]
theorem src_any [hm:TyMake P t e zs by_] {w:World} {H:Hs} {F:Nat→Prop} {a:Act} (h:R0 w H F st a) {es':List (List T)} {x:V1} {u:Value} {kk:Nat} (hkz:kk=zs.length) (hz0:zs ≠ []) (hx:R1 w H F x u) (hs:srcOf st.objs x=some es') (hpl:plainT es') (hkk:∀ e∈es',e.length=kk):Src P kk t u es'.length (flatV (plainV' es') es'.length kk) w:=by
 obtain⟨A,c,rfl,hsrc⟩:=src_form h hx hs
 have hcell:∀ i j (hi:i<es'.length) (hj:j<kk),∃ b o',A=some ⟨b,o',none⟩∧w.cell? ⟨b,o'+i*kk+j,none⟩=some (plainV' es' i j)∧(plainV' es' i j).oneCell'=true:=by
  intro i j hi hj
  have h6:=Gqg hi
  obtain⟨b,o',k,hA,hp,hk,hc⟩:=hsrc i _ h6
  have h7:k=kk:=by rw[←hk,hkk _ (Gqd hi)]
  subst h7
  have h8:j<(es'[i]).length:=by omega
  obtain⟨u',h9,h10⟩:=hc j _ (Gqg h8)
  obtain⟨u'',h11⟩:=hpl _ (Gqd hi) _ (Gqd h8)
  rw[h11] at h10
  obtain⟨rfl,h12⟩:=RO.plain h10
  rw[plainV'_at h6 (by rw[Gqg h8,h11])]
  exact⟨b,o',hA,h9,h12⟩
 refine src_slice (zs:=zs) es' (plainV' es') A c (fun hne => ?_) fun i j hi hj=>by obtain⟨_,_,_,_,h⟩:=hcell i j hi hj; exact h
 have hl:0<es'.length:=Gxj.2 hne
 have hk0:0<kk:=by rw[hkz]; exact Gxj.2 hz0
 obtain⟨b,o',hA,_⟩:=hcell 0 0 hl hk0
 refine⟨b,o',hA,fun i j hi hj => ?_⟩
 obtain⟨b',o'',hA',h1,_⟩:=hcell i j hi hj
 rw[hA] at hA'
 simp only[Option.some.injEq,Addr.mk.injEq] at hA'
 obtain⟨rfl,rfl,_⟩:=hA'
 exact h1

theorem q_appz {ps:List Nat} {q kk:Nat} {es':List (List T)} [hm:TyMake P t e zs by_] (ho:o.op = .call { callee := .builtin .append,args:=#[y,z],argTypes:=#[t,t] }) (hg:o.guard=none) (hy:st.ev y = .o (.c (.sb q 0 kk))) (hz:st.ev z = .o (.c (.rd ps (.sl kk es')))) (hkz:kk=zs.length) (hz0:zs.isEmpty=false)
  (hpl:plainT es') (hkk:∀ e∈es',e.length=kk) (hpos:0<es'.length) (hb:es'.length*by_≤140737488355328) (h63:es'.length≤9223372036854775807):Qt P ops o st (.o (.c (.ref m))) [.row kk es'] m :=
 .new hg fun a w H F hr hn=>by
  have hzn:zs ≠ []:=by intro e; rw[e] at hz0; cases hz0
  subst hkz
  obtain⟨g,tt,vs,b1,b2,b3,b4⟩:=hr.v1 hy
  obtain⟨w1,hw1⟩:∃ w1,w1=w:=⟨_,rfl⟩
  have hs:srcOf st.objs (.rd ps (.sl zs.length es'))=some es':=rfl
  obtain⟨v',w',fp'',hr1,h3,h4,h5,h6⟩:=X3 (P:=P) (o:=o) (t:=t) (kk:=zs.length) (es := []) hr (OW.nil _) List.nodup_nil rfl hzn (hr.v1 hz) hs hpl hkk (by simpa using hb) (by simpa using h63)
  have hbel:Below w.heap.size w w':=⟨h6.os,h6.tape,h6.output,h6.size,fun b hb=>h6.block b hb (by simp)⟩
  refine⟨v',w',.ow (.sl zs.length es') v' fp'',?_,hbel,h3,⟨h4,trivial⟩,fun b hb=>(h5 b hb).resolve_left (by simp),fun H' hgr hq=>⟨⟨_,_,hq⟩,_,_,hq⟩⟩
  refine Yd ho ?_
  have h7:=src_any (P:=P) (t:=t) (e:=e) (by_:=by_) (kk:=zs.length) hr rfl hzn (hr.v1 hz) hs hpl hkk
  rw[b4,run_append_z (P:=P) (some ⟨g,0,none⟩) h7 hpos hb h63]
  exact hr1
end
end
section
open Go.RowKit

abbrev Seen:=Bool×Bool×Bool×Bool
def tileM (e:Bool) (t:Int) (s:Seen×Bool):Option (Seen×Bool) :=
 if t=35 then some s else if e then none else
 if t=49 then (if s.1.1 then none else some ((true,s.1.2),true)) else
 if t=50 then (if s.1.2.1 then none else some ((s.1.1,true,s.1.2.2),true)) else
 if t=51 then (if s.1.2.2.1 then none else some ((s.1.1,s.1.2.1,true,s.1.2.2.2),true)) else
 if t=52 then (if s.1.2.2.2 then none else some ((s.1.1,s.1.2.1,s.1.2.2.1,true),true)) else
 if t=111∨t=46 then some (s.1,true) else none
def colsM (row:ByteArray) (er:Bool) (w:Nat) (s:Seen×Bool):Nat→Option (Seen×Bool)
 |0=>some s
 |c+1=>match colsM row er w s c with
  |none=>none
  |some s'=>tileM (er || decide (c=0) || decide (c+1=w)) (byteAt row c) s'
def rowsM (rows:List ByteArray) (w:Nat):Nat→Option (Seen×Bool)
 |0=>some ((false,false,false,false),false)
 | r+1=>match rowsM rows w r with
  |none=>none
  |some s=>match rows[r]? with
   |none=>none
   |some row=>if row.size=w then colsM row (decide (r=0) || decide (r+1=rows.length)) w s w else none
def widthM (rows:List ByteArray):Nat:=match rows[0]? with
 |some row=>row.size
 |none=>0
def levelOk (l:TLevel):Bool:=decide (3≤l.Rows.length)&&decide (l.Rows.length≤12)&&decide (4≤widthM l.Rows)&&decide (widthM l.Rows≤20)&&match rowsM l.Rows (widthM l.Rows) l.Rows.length with
 |some s=>s.2
 |none=>false

@[reducible] def vb (b:Bool):V1 := .rd [] (.v (.bool b))
section
variable {rows:List ByteArray} {row:ByteArray} {w k c:Nat} {s s':Seen×Bool} {er:Bool}
theorem rows_none {n:Nat} (h:rowsM rows w k=none) (hk:k≤n):rowsM rows w n=none:=by
 induction n with
 | zero => have:k=0:=by omega
           subst this; exact h
 | succ n ih =>
  rcases Gqp n k with h1 | h1
  ·have:k=n+1:=by omega
   subst this; exact h
  ·simp[rowsM,ih h1]
theorem cols_none {n:Nat} (h:colsM row er w s c=none) (hc:c≤n):colsM row er w s n=none:=by
 induction n with
 | zero => have:c=0:=by omega
           subst this; exact h
 | succ n ih =>
  rcases Gqp n c with h1 | h1
  ·have:c=n+1:=by omega
   subst this; exact h
  ·simp[colsM,ih h1]
theorem rows_next (h:rowsM rows w k=some s) (hk:k<rows.length) (hw:rows[k].size=w):rowsM rows w (k+1)=colsM rows[k] (decide (k=0) || decide (k+1=rows.length)) w s w:=by
 rw[rowsM,h]
 simp[Gqg hk,hw]
theorem rows_bad (hk:k<rows.length) (hw:rows[k].size≠w):rowsM rows w (k+1)=none:=by
 rw[rowsM]
 cases rowsM rows w k with
 |none=>rfl
 |some s=>simp[Gqg hk,hw]
theorem cols_next (h:colsM row er w s c=some s'):colsM row er w s (c+1)=tileM (er || decide (c=0) || decide (c+1=w)) (byteAt row c) s':=by
 rw[colsM,h]
theorem level_no {l:TLevel} (hk:k<l.Rows.length) (hw:widthM l.Rows=w) (h:rowsM l.Rows w (k+1)=none):levelOk l=false:=by
 unfold levelOk
 rw[hw,rows_none h (by omega)]
 simp
theorem width_at (h:0<rows.length):widthM rows=rows[0].size:=by simp[widthM,Gqg h]
end
end
section
open Go.RowKit

theorem I_LevelOk (x:TLevel) (hg:Enc.gd x):Con Tryz.prog 163 [] [ag x] [] (B (levelOk x)):=by
 obtain⟨rows⟩:=x
 have hn:Enc.gd rows:=hg
 have hn1:=hn.1
 have hlx:=X6 rows
 refine Con.of Tryz.func163 J Tryz.ntmps163 J (fun E => ?_)
 refine Wz [19,32,3,161,95,130,221,44] ?_
 refine Q8 J (fun h => ?_) (fun h => ?_)
 ·simp only[Gqq,decide_eq_true_eq] at h
  refine Wz [38] ?_
  exact Xi J J (Xt [] (by decide) J J (Xf (by simp[levelOk]; omega)))
 simp only[Gql,decide_eq_false_iff_not] at h
 have h0:0<rows.length:=by omega
 have hat0:(els rows)[(0:Int).toNat]? = some (Enc.e rows[0]):=X4 h0
 have hw:=width_at h0
 refine Wz [13,35,93,146,112,161,0,108,242,44] ?_
 refine Q8 J (fun h1 => ?_) (fun h1 => ?_)
 ·simp only[Gqq,decide_eq_true_eq] at h1
  refine Wz [38] ?_
  exact Xi J J (Xt [] (by decide) J J (Xf (by simp[levelOk]; omega)))
 simp only[Gql,decide_eq_false_iff_not] at h1
 obtain⟨w,hw'⟩:∃ w,w=rows[0].size:=⟨_,rfl⟩
 rw[←hw'] at hw h1
 refine Wz [13,4,60,28,32,114,80] ?_;refine Xe (fun m st=>∃ (k:Nat) (s:Seen×Bool),k+m=rows.length∧(rowsM rows w k=some s)∧st=(⟨_,[(1,.o (.c (.ptr 0 0))),(3,I w),(4,.o (.c (.ptr 1 0))),(5,B s.2),(33,L rows),(34,I (els rows).length),(35,I k)],[.box [.rd [] (sl rows)],.box [vb false,vb s.1.1,vb s.1.2.1,vb s.1.2.2.1,vb s.1.2.2.2]]⟩:St)) (rows.length) ⟨(fun (k:Nat) (s:Seen×Bool)=>(⟨_,[(1,.o (.c (.ptr 0 0))),(3,I w),(4,.o (.c (.ptr 1 0))),(5,B s.2),(33,L rows),(34,I (els rows).length),(35,I k)],[.box [.rd [] (sl rows)],.box [vb false,vb s.1.1,vb s.1.2.1,vb s.1.2.2.1,vb s.1.2.2.2]]⟩:St)) 0 (((false,false,false,false),false)),⟨0,((false,false,false,false),false),by omega,J,J⟩,Xv [0,1] (by decide) J (by kernel_rfl) (.c J (.cons (Xk (by omega)) (.c J (.c J (.c J (.c J (.c J (.nil))))))))⟩ ?_
 rintro m_A _ ⟨k,s,hk_A,hp_A,rfl⟩
 refine Wz [4,40,17] ?_
 refine Q8 J (fun h => ?_) (fun h => ?_)
 ·have h3:k<rows.length:=by have:=Gqc h; omega
  have hat:=X4 h3
  have hgk:rows[k].size≤9223372036854775807:=hn.2 _ (Gqd h3)
  refine Wz [5,8,93,138,112,146,0,143,1] ?_
  refine Q8 J (fun h4 => ?_) (fun h4 => ?_)
  ·have h4:¬rows[k].size=w:=by have:=Gqc h4; omega
   refine Wz [61,90,131,107] ?_
   exact Xi J J (Xt [] (by decide) J J (Xf (level_no (l:=⟨rows⟩) h3 hw (rows_bad h3 h4)).symm))
  have h4:rows[k].size=w:=by have:=Gqe h4; omega
  have hrn:=rows_next hp_A h3 h4
  obtain⟨er,her⟩:∃ er,er=(decide (k=0) || decide (k+1=rows.length)):=⟨_,rfl⟩
  rw[←her] at hrn
  refine Wz [13,28,179] ?_;refine Xe (fun m st=>∃ (c:Nat) (u:Seen×Bool),c+m=w∧(colsM rows[k] er w s c=some u)∧st=(⟨_,[(1,.o (.c (.ptr 0 0))),(3,I w),(4,.o (.c (.ptr 1 0))),(5,B u.2),(6,I k),(7,S rows[k]),(8,I c),(33,L rows),(34,I (els rows).length),(35,I k)],[.box [.rd [] (sl rows)],.box [vb false,vb u.1.1,vb u.1.2.1,vb u.1.2.2.1,vb u.1.2.2.2]]⟩:St)) (w) ⟨_,⟨0,s,by omega,J,J⟩,Xu [0,1] (by kernel_rfl)⟩ ?_
  rintro m_D _ ⟨c,u,hk_D,hp_D,rfl⟩
  refine Wz [33,40] ?_
  refine Q8 J (fun h5 => ?_) (fun h5 => ?_)
  ·have h5:c<w:=by have:=Gqc h5; omega
   have hcn:=cols_next hp_D
   obtain⟨t,ht⟩:∃ t,byteAt rows[k] (c:Int).toNat=t:=⟨_,rfl⟩
   rw[show byteAt rows[k] c=t from ht] at hcn
   have htb:0≤t∧t≤255:=ht▸byteAt_lt _ _
   obtain⟨⟨sa,sb,sc,sd⟩,so⟩:=u
   obtain⟨e,he⟩:∃ e,e=(er || decide (c=0) || decide (c+1=w)):=⟨_,rfl⟩
   rw[←he] at hcn
   refine Wz [5,9,243,74,172,0,108,165,190,198] ?_;refine zx (Qt.grdF J J J (.hit (.hit (.hit (.hit .stop)))) (fun hgrd=>Q9 J J J J (by omega))) J ?_;refine zx (Qt.grdF J J J (.hit (.hit (.hit (.hit (.hit .stop))))) (fun hgrd=>Zb J J J J)) J ?_;refine Wz [91,0,108] ?_;refine zx (Qt.grdF J J J (.hit .stop) (fun hgrd=>Zb J J J J)) J ?_;refine Wz [91,0,108,199] ?_;refine zx (Qt.grdF J J J (.hit (.hit .stop)) (fun hgrd=>Q9 J J J J (by omega))) J ?_;refine zx (Qt.grdF J J J (.hit (.hit (.hit .stop))) (fun hgrd=>Zb J J J J)) J ?_;refine Wz [91,7,33,133,222,39,1] ?_
   have hee:(decide ((k:Int)=0) || decide ((k:Int)=((els rows).length:Int)-1) || decide ((c:Int)=0) || decide ((c:Int)=(w:Int)-1))=e:=by
    rw[he,her,hlx]
    have g1:decide ((k:Int)=0)=decide (k=0):=by simp
    have g2:decide ((k:Int)=(rows.length:Int)-1)=decide (k+1=rows.length):=decide_eq_decide.2 (by omega)
    have g3:decide ((c:Int)=0)=decide (c=0):=by simp
    have g4:decide ((c:Int)=(w:Int)-1)=decide (c+1=w):=decide_eq_decide.2 (by omega)
    rw[g1,g2,g3,g4]
   clear he her
   have hbad:colsM rows[k] er w s (c+1)=none→levelOk ⟨rows⟩=false:=fun hc=>level_no (l:=⟨rows⟩) h3 hw (hrn.trans (cols_none hc (by omega)))
   refine Q8 J (fun h6 => ?_) (fun h6 => ?_)
   ·rw[hee] at h6
    simp only[Gqk,decide_eq_true_eq] at h6
    refine Wz [61,90,131,122] ?_
    exact Xi J J (Xt [] (by decide) J J (Xf (hbad (hcn.trans (by simp[tileM,h6]))).symm))
   rw[hee] at h6
   have h7:t=35∨e=false:=by
    simp only[Gxi,decide_eq_false_iff_not,Classical.not_not] at h6
    exact h6.symm
   clear h6 hee
   refine AWP.pre (st':=(⟨_,[(1,.o (.c (.ptr 0 0))),(3,I w),(4,.o (.c (.ptr 1 0))),(5,B so),(6,I k),(7,S rows[k]),(8,I c),(9,VI .u8 t),(33,L rows),(34,I (els rows).length),(35,I k)],[.box [.rd [] (sl rows)],.box [vb false,vb sa,vb sb,vb sc,vb sd]]⟩:St)) ?_ (Xu [0,1] (by kernel_rfl))
   rcases h7 with rfl | h7
   ·refine Wz [5,8] ?_
    refine zx (Ze (b:=false) J J J J (by decide)) J ?_;refine Wz [0,46,37,100,8] ?_;refine zx (Qw (b:=false) J J J J (by decide)) J ?_;refine Wz [0,46,37,0,46,37,100,113,155,8] ?_;refine zx (Qw (b:=false) J J J J (by decide)) J ?_;refine Wz [88,49] ?_
    exact⟨w-(c+1),by omega,_,⟨c+1,((sa,sb,sc,sd),so),by omega,hcn.trans (by simp[tileM]),J⟩,Xu [0,1] (by kernel_rfl)⟩
   subst h7
   rcases (by omega:t=35∨t=49∨t=50∨t=51∨t=52∨t=111∨t=46∨(t≠35∧t≠49∧t≠50∧t≠51∧t≠52∧t≠111∧t≠46)) with rfl | rfl | rfl | rfl | rfl | rfl | rfl | ht7
   ·refine Wz [5,8] ?_
    refine zx (Ze (b:=false) J J J J (by decide)) J ?_;refine Wz [0,46,37,100,8] ?_;refine zx (Qw (b:=false) J J J J (by decide)) J ?_;refine Wz [0,46,37,0,46,37,100,113,155,8] ?_;refine zx (Qw (b:=false) J J J J (by decide)) J ?_;refine Wz [88,49] ?_
    exact⟨w-(c+1),by omega,_,⟨c+1,((sa,sb,sc,sd),so),by omega,hcn.trans (by simp[tileM]),J⟩,Xu [0,1] (by kernel_rfl)⟩
   ·refine Wz [5,8] ?_
    refine zx (Ze (b:=true) J J J J (by decide)) J ?_;refine Wz [55] ?_;refine zx (Zj (b:=true) J J J J (by decide)) J ?_;refine Wz [67,7,120,63,139,180,117,1] ?_
    refine Q8 J (fun h8 => ?_) (fun h8 => ?_)
    ·have h8:sa=true:=h8
     subst h8
     refine Wz [61,90,90,131,122] ?_
     exact Xi J J (Xt [] (by decide) J J (Xf (hbad (hcn.trans (by simp[tileM]))).symm))
    ·have h8:sa=false:=h8
     subst h8
     refine Wz [13,16,0,139,180,181,118,155,8] ?_;refine zx (Qw (b:=true) J J J J (by decide)) J ?_;refine Wz [42,16,86] ?_
     exact⟨w-(c+1),by omega,_,⟨c+1,((true,sb,sc,sd),true),by omega,hcn.trans (by simp[tileM]),J⟩,Xu [0,1] (by kernel_rfl)⟩
   ·refine Wz [5,8] ?_
    refine zx (Ze (b:=true) J J J J (by decide)) J ?_;refine Wz [55] ?_;refine zx (Zj (b:=true) J J J J (by decide)) J ?_;refine Wz [67,7,120,63,139,180,117,1] ?_
    refine Q8 J (fun h8 => ?_) (fun h8 => ?_)
    ·have h8:sb=true:=h8
     subst h8
     refine Wz [61,90,90,131,122] ?_
     exact Xi J J (Xt [] (by decide) J J (Xf (hbad (hcn.trans (by simp[tileM]))).symm))
    ·have h8:sb=false:=h8
     subst h8
     refine Wz [13,16,0,139,180,181,118,155,8] ?_;refine zx (Qw (b:=true) J J J J (by decide)) J ?_;refine Wz [42,16,86] ?_
     exact⟨w-(c+1),by omega,_,⟨c+1,((sa,true,sc,sd),true),by omega,hcn.trans (by simp[tileM]),J⟩,Xu [0,1] (by kernel_rfl)⟩
   ·refine Wz [5,8] ?_
    refine zx (Ze (b:=true) J J J J (by decide)) J ?_;refine Wz [55] ?_;refine zx (Zj (b:=true) J J J J (by decide)) J ?_;refine Wz [67,7,120,63,139,180,117,1] ?_
    refine Q8 J (fun h8 => ?_) (fun h8 => ?_)
    ·have h8:sc=true:=h8
     subst h8
     refine Wz [61,90,90,131,122] ?_
     exact Xi J J (Xt [] (by decide) J J (Xf (hbad (hcn.trans (by simp[tileM]))).symm))
    ·have h8:sc=false:=h8
     subst h8
     refine Wz [13,16,0,139,180,181,118,155,8] ?_;refine zx (Qw (b:=true) J J J J (by decide)) J ?_;refine Wz [42,16,86] ?_
     exact⟨w-(c+1),by omega,_,⟨c+1,((sa,sb,true,sd),true),by omega,hcn.trans (by simp[tileM]),J⟩,Xu [0,1] (by kernel_rfl)⟩
   ·refine Wz [5,8] ?_
    refine zx (Ze (b:=true) J J J J (by decide)) J ?_;refine Wz [55] ?_;refine zx (Zj (b:=true) J J J J (by decide)) J ?_;refine Wz [67,7,120,63,139,180,117,1] ?_
    refine Q8 J (fun h8 => ?_) (fun h8 => ?_)
    ·have h8:sd=true:=h8
     subst h8
     refine Wz [61,90,90,131,122] ?_
     exact Xi J J (Xt [] (by decide) J J (Xf (hbad (hcn.trans (by simp[tileM]))).symm))
    ·have h8:sd=false:=h8
     subst h8
     refine Wz [13,16,0,139,180,181,118,155,8] ?_;refine zx (Qw (b:=true) J J J J (by decide)) J ?_;refine Wz [42,16,86] ?_
     exact⟨w-(c+1),by omega,_,⟨c+1,((sa,sb,sc,true),true),by omega,hcn.trans (by simp[tileM]),J⟩,Xu [0,1] (by kernel_rfl)⟩
   ·refine Wz [5,8] ?_
    refine zx (Ze (b:=true) J J J J (by decide)) J ?_;refine Wz [55] ?_;refine zx (Zj (b:=false) J J J J (by decide)) J ?_;refine Wz [67,100,8] ?_;refine zx (Qw (b:=true) J J J J (by decide)) J ?_;refine Wz [55] ?_;refine zx (Qw (b:=false) J J J J (by decide)) J ?_;refine Wz [67,0,46,37,100,113,155,8] ?_;refine zx (Qw (b:=true) J J J J (by decide)) J ?_;refine Wz [42,16,86] ?_
    exact⟨w-(c+1),by omega,_,⟨c+1,((sa,sb,sc,sd),true),by omega,hcn.trans (by simp[tileM]),J⟩,Xu [0,1] (by kernel_rfl)⟩
   ·refine Wz [5,8] ?_
    refine zx (Ze (b:=false) J J J J (by decide)) J ?_;refine Wz [0,46,37,100,8] ?_;refine zx (Qw (b:=true) J J J J (by decide)) J ?_;refine Wz [55] ?_;refine zx (Qw (b:=true) J J J J (by decide)) J ?_;refine Wz [67,55] ?_;refine zx (Qw (b:=false) J J J J (by decide)) J ?_;refine Wz [67,100,113,155,8] ?_;refine zx (Qw (b:=true) J J J J (by decide)) J ?_;refine Wz [42,16,86] ?_
    exact⟨w-(c+1),by omega,_,⟨c+1,((sa,sb,sc,sd),true),by omega,hcn.trans (by simp[tileM]),J⟩,Xu [0,1] (by kernel_rfl)⟩
   ·refine Wz [5,8,220] ?_
    refine Wz [0,133] ?_;refine zx (Qt.grdT J J J (.hit .stop) (fun hgrd=>q_leq J J J J)) J ?_;refine Wz [39,7] ?_
    refine Q8 J (fun h8 => ?_) (fun h8 => ?_)
    ·simp only[Gqk,decide_eq_true_eq] at h8
     omega
    refine Wz [8,143,0,133,222,39,0,133,222,39,7] ?_
    refine Q8 J (fun h9 => ?_) (fun h9 => ?_)
    ·refine Wz [61,162,90,223] ?_
     refine Wz [90,122] ?_
     exact Xi J J (Xt [] (by decide) J J (Xf (hbad (hcn.trans (by simp[tileM,ht7]))).symm))
    ·simp only[Gxi,decide_eq_false_iff_not,Classical.not_not] at h9
     omega
  ·have h5:c=w:=by have:=Gqe h5; omega
   rw[h5] at hp_D
   rw[hp_D] at hrn
   refine Wz [182,94,36,0,1] ?_
   exact⟨rows.length-(k+1),by omega,_,⟨k+1,u,by omega,hrn,J⟩,Xu [0,1] (by kernel_rfl)⟩
 ·have h3:¬((k:Int)<(els rows).length):=Gqe h
  have hk:k=rows.length:=by omega
  subst hk
  refine Wz [24] ?_
  exact Xi J J (Xt [] (by decide) J J (Xf (by
   unfold levelOk
   rw[hw,hp_A]
   have:3≤rows.length∧rows.length≤12∧4≤w∧w≤20:=by omega
   simp[this])))
end
section
open Go.RowKit

theorem S_LevelOk (x:TLevel) (hg:Enc.gd x):Con Tryz.prog 154 [] [ag x] [] (B (levelOk x)):=by
 obtain⟨rows⟩:=x
 have hn:Enc.gd rows:=hg
 have hn1:=hn.1
 have hlx:=X6 rows
 refine Con.of Tryz.func154 J Tryz.ntmps154 J (fun E => ?_)
 refine Wz [19,32,3] ?_;refine zx (Qj J J (Xs (els rows).length 3 12) J) J ?_;refine Wz [10,1] ?_
 refine Q8 J (fun h => ?_) (fun h => ?_)
 ·refine Wz [38] ?_
  exact Xi J J (Xt [] (by decide) J J (Xf (by simp[inR] at h; simp[levelOk]; omega)))
 have h:3≤rows.length∧rows.length≤12:=by simp[inR] at h; omega
 have h0:0<rows.length:=by omega
 have hat0:(els rows)[(0:Int).toNat]? = some (Enc.e rows[0]):=X4 h0
 have hw:=width_at h0
 obtain⟨w,hw'⟩:∃ w,w=rows[0].size:=⟨_,rfl⟩
 rw[←hw'] at hw
 have hg0:rows[0].size≤9223372036854775807:=hn.2 _ (Gqd h0)
 refine Wz [13,35,93,146,7,28,4,191,7,23] ?_;refine Xe (fun m st=>∃ (k:Nat) (s:Seen×Bool),k+m=rows.length∧(rowsM rows w k=some s∧(0<k→4≤w∧w≤20))∧st=(⟨_,[(1,.o (.c (.ptr 0 0))),(3,I w),(4,B s.2),(5,.o (.c (.sb 1 4 1))),(6,I k)],[.box [.rd [] (sl rows)],.box [vb s.1.1,vb s.1.2.1,vb s.1.2.2.1,vb s.1.2.2.2]]⟩:St)) (rows.length) ⟨(fun (k:Nat) (s:Seen×Bool)=>(⟨_,[(1,.o (.c (.ptr 0 0))),(3,I w),(4,B s.2),(5,.o (.c (.sb 1 4 1))),(6,I k)],[.box [.rd [] (sl rows)],.box [vb s.1.1,vb s.1.2.1,vb s.1.2.2.1,vb s.1.2.2.2]]⟩:St)) 0 (((false,false,false,false),false)),⟨0,((false,false,false,false),false),by omega,⟨J,by omega⟩,J⟩,Xv [0,1] (by decide) J (by kernel_rfl) (.c J (.cons (Xk (by omega)) (.c J (.c J (.c J (.nil))))))⟩ ?_
 rintro m_A _ ⟨k,s,hk_A,hp_A,rfl⟩
 refine Wz [63,14,3,40] ?_
 refine Q8 J (fun h => ?_) (fun h => ?_)
 ·have h3:k<rows.length:=by have:=Gqc h; omega
  have hat:=X4 h3
  have hwc:((rows[0].size:Nat):Int)=w:=by omega
  have hgk:rows[k].size≤9223372036854775807:=hn.2 _ (Gqd h3)
  refine Wz [5,32,0,93,146,0,143,0,108] ?_;refine zx (Qt.grdF J J J (.hit .stop) (fun hgrd=>Qj J J (Xs w 4 20) J)) J ?_;refine Wz [152,44] ?_
  refine Q8 J (fun h4 => ?_) (fun h4 => ?_)
  ·simp only[Gqq,decide_eq_true_eq,Gxa,inR,Gxi,decide_eq_false_iff_not] at h4
   refine Wz [61,90,131,107] ?_
   refine Xi J J (Xt [] (by decide) J J (Xf ?_))
   by_cases h4':rows[k].size=w
   ·have:¬(4≤w∧w≤20):=by omega
    simp only[levelOk,hw]
    rcases Gqp w 4 with h9 | h9
    ·simp[show ¬4≤w by omega]
    ·simp[show ¬w≤20 by omega]
   ·exact (level_no (l:=⟨rows⟩) h3 hw (rows_bad h3 h4')).symm
  simp only[Gql,decide_eq_false_iff_not,Gqt,inR,Gqk,decide_eq_true_eq] at h4
  have h1:4≤w∧w≤20:=by omega
  have h4:rows[k].size=w:=by omega
  have hrn:=rows_next hp_A.1 h3 h4
  obtain⟨er,her⟩:∃ er,er=(decide (k=0) || decide (k+1=rows.length)):=⟨_,rfl⟩
  rw[←her] at hrn
  refine Wz [13,28,179] ?_;refine Xe (fun m st=>∃ (c:Nat) (u:Seen×Bool),c+m=w∧(colsM rows[k] er w s c=some u)∧st=(⟨_,[(1,.o (.c (.ptr 0 0))),(3,I w),(4,B u.2),(5,.o (.c (.sb 1 4 1))),(6,I k),(7,I c)],[.box [.rd [] (sl rows)],.box [vb u.1.1,vb u.1.2.1,vb u.1.2.2.1,vb u.1.2.2.2]]⟩:St)) (w) ⟨_,⟨0,s,by omega,J,J⟩,Xu [0,1] (by kernel_rfl)⟩ ?_
  rintro m_D _ ⟨c,u,hk_D,hp_D,rfl⟩
  refine Wz [33,40] ?_
  refine Q8 J (fun h5 => ?_) (fun h5 => ?_)
  ·have h5:c<w:=by have:=Gqc h5; omega
   have hcn:=cols_next hp_D
   obtain⟨t,ht⟩:∃ t,byteAt rows[k] (c:Int).toNat=t:=⟨_,rfl⟩
   rw[show byteAt rows[k] c=t from ht] at hcn
   have htb:0≤t∧t≤255:=ht▸byteAt_lt _ _
   obtain⟨⟨sa,sb,sc,sd⟩,so⟩:=u
   obtain⟨e,he⟩:∃ e,e=(er || decide (c=0) || decide (c+1=w)):=⟨_,rfl⟩
   rw[←he] at hcn
   refine Wz [5,54,129,104,243,74,172,0,108] ?_;refine zx (Qt.grdF J J J (.hit .stop) (fun hgrd=>Zb J J J J)) J ?_;refine Wz [91,0,108,165,190,198] ?_;refine zx (Qt.grdF J J J (.hit (.hit (.hit (.hit .stop)))) (fun hgrd=>Q9 J J J J (by omega))) J ?_;refine zx (Qt.grdF J J J (.hit (.hit (.hit (.hit (.hit .stop))))) (fun hgrd=>Zb J J J J)) J ?_;refine Wz [91,0,108,199] ?_;refine zx (Qt.grdF J J J (.hit (.hit .stop)) (fun hgrd=>Q9 J J J J (by omega))) J ?_;refine zx (Qt.grdF J J J (.hit (.hit (.hit .stop))) (fun hgrd=>Zb J J J J)) J ?_;refine Wz [91,7,17,179,8,172,7] ?_
   have hee:(decide ((k:Int)=0) || decide ((c:Int)=0) || decide ((k:Int)=((els rows).length:Int)-1) || decide ((c:Int)=(w:Int)-1))=e:=by
    rw[he,her,hlx]
    have g1:decide ((k:Int)=0)=decide (k=0):=by simp
    have g2:decide ((k:Int)=(rows.length:Int)-1)=decide (k+1=rows.length):=decide_eq_decide.2 (by omega)
    have g3:decide ((c:Int)=0)=decide (c=0):=by simp
    have g4:decide ((c:Int)=(w:Int)-1)=decide (c+1=w):=decide_eq_decide.2 (by omega)
    rw[g1,g2,g3,g4]
    cases decide (k=0) <;> cases decide (c=0) <;> cases decide (k+1=rows.length) <;> rfl
   clear he her
   have hbad:colsM rows[k] er w s (c+1)=none→levelOk ⟨rows⟩=false:=fun hc=>level_no (l:=⟨rows⟩) h3 hw (hrn.trans (cols_none hc (by omega)))
   refine AWP.pre (st':=(⟨_,[(1,.o (.c (.ptr 0 0))),(3,I w),(4,B so),(5,.o (.c (.sb 1 4 1))),(6,I k),(7,I c),(8,VI .u8 t),(9,B e),(73,B (decide (t=35)))],[.box [.rd [] (sl rows)],.box [vb sa,vb sb,vb sc,vb sd]]⟩:St)) ?_ (Xv [0,1] (by decide) J (by kernel_rfl) (.c J (.c J (.c J (.c J (.c J (.c J (.c J (.cons (Xf hee) (.c J (.nil)))))))))))
   by_cases h7:t=35
   ·subst h7
    refine Wz [120,113,94,41,108] ?_;refine zx (Qt.grdF J J J (.hit .stop) (fun hgrd=>Qw (b:=false) J J J J (by decide))) J ?_;refine Wz [91,86] ?_
    exact⟨w-(c+1),by omega,(fun (c:Nat) (u:Seen×Bool)=>(⟨_,[(1,.o (.c (.ptr 0 0))),(3,I w),(4,B u.2),(5,.o (.c (.sb 1 4 1))),(6,I k),(7,I c)],[.box [.rd [] (sl rows)],.box [vb u.1.1,vb u.1.2.1,vb u.1.2.2.1,vb u.1.2.2.2]]⟩:St)) (c+1) (((sa,sb,sc,sd),so)),⟨c+1,((sa,sb,sc,sd),so),by omega,hcn.trans (by simp[tileM]),J⟩,Xv [0,1] (by decide) J (by kernel_rfl) (.c J (.c J (.cons (Xf (by simp)) (.c J (.c J (.c J (.nil)))))))⟩
   cases e
   case true =>
    have f1:decide (t=35)=false:=Gqa h7
    refine Q8 J (fun h=>absurd (Gqc h) h7) (fun _ => ?_)
    refine Wz [9,46,144,96,96,46,96,96,96,96,96,96,144,67,7,120,61,162,90,131,122] ?_
    exact Xi J J (Xt [] (by decide) J J (Xf (hbad (hcn.trans (by simp[tileM,h7]))).symm))
   refine Q8 J (fun h=>absurd (Gqc h) h7) (fun _ => ?_)
   rcases (by omega:t=49∨t=50∨t=51∨t=52∨t=111∨t=46∨(t≠35∧t≠49∧t≠50∧t≠51∧t≠52∧t≠111∧t≠46)) with rfl | rfl | rfl | rfl | rfl | rfl | ht7
   ·refine Wz [9,2] ?_
    refine Wz [62] ?_;refine zx (Qw (b:=true) J J J J (by decide)) J ?_;refine Wz [2,55] ?_;refine zx (Qw (b:=true) J J J J (by decide)) J ?_;refine Wz [2,67,2,55,119,2,55,183,2,37,2,67,37,100,8] ?_;refine zx (Ze (b:=true) J J J J (by decide)) J ?_;refine Wz [55] ?_;refine zx (Zj (b:=true) J J J J (by decide)) J ?_;refine Wz [67,7,120,33,139,184,117,1] ?_
    refine Q8 J (fun h8 => ?_) (fun h8 => ?_)
    ·have h8:sa=true:=h8
     subst h8
     refine Wz [61,90,90,131,122] ?_
     exact Xi J J (Xt [] (by decide) J J (Xf (hbad (hcn.trans (by simp[tileM]))).symm))
    ·have h8:sa=false:=h8
     subst h8
     refine Wz [13,16,41,139,184,181,118,94,41,108] ?_;refine zx (Qt.grdF J J J (.hit .stop) (fun hgrd=>Qw (b:=true) J J J J (by decide))) J ?_;refine Wz [91,86] ?_
     exact⟨w-(c+1),by omega,(fun (c:Nat) (u:Seen×Bool)=>(⟨_,[(1,.o (.c (.ptr 0 0))),(3,I w),(4,B u.2),(5,.o (.c (.sb 1 4 1))),(6,I k),(7,I c)],[.box [.rd [] (sl rows)],.box [vb u.1.1,vb u.1.2.1,vb u.1.2.2.1,vb u.1.2.2.2]]⟩:St)) (c+1) (((true,sb,sc,sd),true)),⟨c+1,((true,sb,sc,sd),true),by omega,hcn.trans (by simp[tileM]),J⟩,Xv [0,1] (by decide) J (by kernel_rfl) (.c J (.c J (.cons (Xf (by simp)) (.c J (.c J (.c J (.nil)))))))⟩
   ·refine Wz [9,2] ?_
    refine Wz [62] ?_;refine zx (Qw (b:=true) J J J J (by decide)) J ?_;refine Wz [2,55] ?_;refine zx (Qw (b:=true) J J J J (by decide)) J ?_;refine Wz [2,67,2,55,119,2,55,183,2,37,2,67,37,100,8] ?_;refine zx (Ze (b:=true) J J J J (by decide)) J ?_;refine Wz [55] ?_;refine zx (Zj (b:=true) J J J J (by decide)) J ?_;refine Wz [67,7,120,33,139,184,117,1] ?_
    refine Q8 J (fun h8 => ?_) (fun h8 => ?_)
    ·have h8:sb=true:=h8
     subst h8
     refine Wz [61,90,90,131,122] ?_
     exact Xi J J (Xt [] (by decide) J J (Xf (hbad (hcn.trans (by simp[tileM]))).symm))
    ·have h8:sb=false:=h8
     subst h8
     refine Wz [13,16,41,139,184,181,118,94,41,108] ?_;refine zx (Qt.grdF J J J (.hit .stop) (fun hgrd=>Qw (b:=true) J J J J (by decide))) J ?_;refine Wz [91,86] ?_
     exact⟨w-(c+1),by omega,(fun (c:Nat) (u:Seen×Bool)=>(⟨_,[(1,.o (.c (.ptr 0 0))),(3,I w),(4,B u.2),(5,.o (.c (.sb 1 4 1))),(6,I k),(7,I c)],[.box [.rd [] (sl rows)],.box [vb u.1.1,vb u.1.2.1,vb u.1.2.2.1,vb u.1.2.2.2]]⟩:St)) (c+1) (((sa,true,sc,sd),true)),⟨c+1,((sa,true,sc,sd),true),by omega,hcn.trans (by simp[tileM]),J⟩,Xv [0,1] (by decide) J (by kernel_rfl) (.c J (.c J (.cons (Xf (by simp)) (.c J (.c J (.c J (.nil)))))))⟩
   ·refine Wz [9,2] ?_
    refine Wz [62] ?_;refine zx (Qw (b:=true) J J J J (by decide)) J ?_;refine Wz [2,55] ?_;refine zx (Qw (b:=true) J J J J (by decide)) J ?_;refine Wz [2,67,2,55,119,2,55,183,2,37,2,67,37,100,8] ?_;refine zx (Ze (b:=true) J J J J (by decide)) J ?_;refine Wz [55] ?_;refine zx (Zj (b:=true) J J J J (by decide)) J ?_;refine Wz [67,7,120,33,139,184,117,1] ?_
    refine Q8 J (fun h8 => ?_) (fun h8 => ?_)
    ·have h8:sc=true:=h8
     subst h8
     refine Wz [61,90,90,131,122] ?_
     exact Xi J J (Xt [] (by decide) J J (Xf (hbad (hcn.trans (by simp[tileM]))).symm))
    ·have h8:sc=false:=h8
     subst h8
     refine Wz [13,16,41,139,184,181,118,94,41,108] ?_;refine zx (Qt.grdF J J J (.hit .stop) (fun hgrd=>Qw (b:=true) J J J J (by decide))) J ?_;refine Wz [91,86] ?_
     exact⟨w-(c+1),by omega,(fun (c:Nat) (u:Seen×Bool)=>(⟨_,[(1,.o (.c (.ptr 0 0))),(3,I w),(4,B u.2),(5,.o (.c (.sb 1 4 1))),(6,I k),(7,I c)],[.box [.rd [] (sl rows)],.box [vb u.1.1,vb u.1.2.1,vb u.1.2.2.1,vb u.1.2.2.2]]⟩:St)) (c+1) (((sa,sb,true,sd),true)),⟨c+1,((sa,sb,true,sd),true),by omega,hcn.trans (by simp[tileM]),J⟩,Xv [0,1] (by decide) J (by kernel_rfl) (.c J (.c J (.cons (Xf (by simp)) (.c J (.c J (.c J (.nil)))))))⟩
   ·refine Wz [9,2] ?_
    refine Wz [62] ?_;refine zx (Qw (b:=true) J J J J (by decide)) J ?_;refine Wz [2,55] ?_;refine zx (Qw (b:=true) J J J J (by decide)) J ?_;refine Wz [2,67,2,55,119,2,55,183,2,37,2,67,37,100,8] ?_;refine zx (Ze (b:=true) J J J J (by decide)) J ?_;refine Wz [55] ?_;refine zx (Zj (b:=true) J J J J (by decide)) J ?_;refine Wz [67,7,120,33,139,184,117,1] ?_
    refine Q8 J (fun h8 => ?_) (fun h8 => ?_)
    ·have h8:sd=true:=h8
     subst h8
     refine Wz [61,90,90,131,122] ?_
     exact Xi J J (Xt [] (by decide) J J (Xf (hbad (hcn.trans (by simp[tileM]))).symm))
    ·have h8:sd=false:=h8
     subst h8
     refine Wz [13,16,41,139,184,181,118,94,41,108] ?_;refine zx (Qt.grdF J J J (.hit .stop) (fun hgrd=>Qw (b:=true) J J J J (by decide))) J ?_;refine Wz [91,86] ?_
     exact⟨w-(c+1),by omega,(fun (c:Nat) (u:Seen×Bool)=>(⟨_,[(1,.o (.c (.ptr 0 0))),(3,I w),(4,B u.2),(5,.o (.c (.sb 1 4 1))),(6,I k),(7,I c)],[.box [.rd [] (sl rows)],.box [vb u.1.1,vb u.1.2.1,vb u.1.2.2.1,vb u.1.2.2.2]]⟩:St)) (c+1) (((sa,sb,sc,true),true)),⟨c+1,((sa,sb,sc,true),true),by omega,hcn.trans (by simp[tileM]),J⟩,Xv [0,1] (by decide) J (by kernel_rfl) (.c J (.c J (.cons (Xf (by simp)) (.c J (.c J (.c J (.nil)))))))⟩
   ·refine Wz [9,2] ?_
    refine Wz [62,105,2,0,46,2,37,2,0,46,144,96,96,144,2,37,37,100,8] ?_;refine zx (Ze (b:=true) J J J J (by decide)) J ?_;refine Wz [55] ?_;refine z9b J (by assumption) ?_;refine Wz [67,100,113,94,41,108] ?_;refine zx (Qt.grdF J J J (.hit .stop) (fun hgrd=>Qw (b:=true) J J J J (by decide))) J ?_;refine Wz [91,86] ?_
    exact⟨w-(c+1),by omega,(fun (c:Nat) (u:Seen×Bool)=>(⟨_,[(1,.o (.c (.ptr 0 0))),(3,I w),(4,B u.2),(5,.o (.c (.sb 1 4 1))),(6,I k),(7,I c)],[.box [.rd [] (sl rows)],.box [vb u.1.1,vb u.1.2.1,vb u.1.2.2.1,vb u.1.2.2.2]]⟩:St)) (c+1) (((sa,sb,sc,sd),true)),⟨c+1,((sa,sb,sc,sd),true),by omega,hcn.trans (by simp[tileM]),J⟩,Xv [0,1] (by decide) J (by kernel_rfl) (.c J (.c J (.cons (Xf (by simp)) (.c J (.c J (.c J (.nil)))))))⟩
   ·refine Wz [9,2] ?_
    refine Wz [62] ?_;refine zx (Qw (b:=true) J J J J (by decide)) J ?_;refine Wz [2,55,105,2,67,2,0,46,144,96,96,144,2,37,37,100,8,163,0,46,37,100,113,94,41,108] ?_;refine zx (Qt.grdF J J J (.hit .stop) (fun hgrd=>Qw (b:=true) J J J J (by decide))) J ?_;refine Wz [91,86] ?_
    exact⟨w-(c+1),by omega,(fun (c:Nat) (u:Seen×Bool)=>(⟨_,[(1,.o (.c (.ptr 0 0))),(3,I w),(4,B u.2),(5,.o (.c (.sb 1 4 1))),(6,I k),(7,I c)],[.box [.rd [] (sl rows)],.box [vb u.1.1,vb u.1.2.1,vb u.1.2.2.1,vb u.1.2.2.2]]⟩:St)) (c+1) (((sa,sb,sc,sd),true)),⟨c+1,((sa,sb,sc,sd),true),by omega,hcn.trans (by simp[tileM]),J⟩,Xv [0,1] (by decide) J (by kernel_rfl) (.c J (.c J (.cons (Xf (by simp)) (.c J (.c J (.c J (.nil)))))))⟩
   ·refine Wz [9,2] ?_
    refine Wz [62,143,2,0,133,222,2,39,2,0,133] ?_;refine zx (Qt.grdT J J J (.hit .stop) (fun hgrd=>Zm J J J J)) J ?_;refine zx (Qt.grdT J J J (.hit (.hit .stop)) (fun hgrd=>Qa J J J)) J ?_;refine zx (Qt.grd2F J J J (.hit1 (.hit1 (.hit1 .stop))) (fun hgrd hgrd2=>Qa J J J)) J ?_;refine zx (Qt.grd2F J J J (.hit (.hit1 (.hit1 (.hit1 .stop)))) (fun hgrd hgrd2=>q_gtr J J J J)) J ?_;refine zx (Qt.grdT J J J (.part (.part (.hit (.hit (.hit .stop))))) (fun hgrd=>Zr J J J J)) J ?_;refine Wz [2,39,37,7] ?_
    refine Q8 J (fun h8 => ?_) (fun h8 => ?_)
    ·refine Wz [61,162,90,223] ?_
     refine Wz [90,122] ?_
     exact Xi J J (Xt [] (by decide) J J (Xf (hbad (hcn.trans (by simp[tileM,ht7]))).symm))
    ·simp only[Gxi,Gql,Bool.false_or,decide_eq_false_iff_not,Classical.not_not] at h8
     omega
  ·have h5:c=w:=by have:=Gqe h5; omega
   rw[h5] at hp_D
   rw[hp_D] at hrn
   refine Wz [182,200] ?_
   exact⟨rows.length-(k+1),by omega,_,⟨k+1,u,by omega,⟨hrn,fun _=>h1⟩,J⟩,Xu [0,1] (by kernel_rfl)⟩
 ·have h3:¬((k:Int)<(els rows).length):=Gqe h
  have hk:k=rows.length:=by omega
  subst hk
  refine Wz [24] ?_
  exact Xi J J (Xt [] (by decide) J J (Xf (by
   unfold levelOk
   rw[hw,hp_A.1]
   have h1:=hp_A.2 (by omega)
   have:3≤rows.length∧rows.length≤12∧4≤w∧w≤20:=by omega
   simp[this])))
end
section
open Go.RowKit
end
end Go.Proofs.YtoecjaohdnoenaaGreat
