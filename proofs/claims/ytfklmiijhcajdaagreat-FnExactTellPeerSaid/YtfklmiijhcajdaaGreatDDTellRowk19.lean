/-
  Rules, data and contracts of functions: part 20 of the proof.
  Conditions: those that each theorem names.
-/
import Derived.Test.YtfklmiijhcajdaaGreatDDTellRowk18
set_option linter.unusedVariables false
set_option linter.unusedSimpArgs false
set_option maxRecDepth 8000
set_option maxHeartbeats 8000000
namespace Go.Proofs.YtfklmiijhcajdaaGreat
section
open Go.RowKit

structure TFlight where
 At:Int
 Data:ByteArray
 deriving DecidableEq
instance:Enc TFlight:=⟨2,Aqa,fun x => [.v (.int .i64 x.At),.v (.string x.Data)],fun _=>rfl,fun x=>Enc.gd x.At∧Enc.gd x.Data,fun x=>Enc.wt x.Data⟩
theorem TFlight.same {x y:TFlight} (h0:x.At=y.At) (h1:x.Data=y.Data):x=y:=by cases x; cases y; simp_all
structure TWire where
 Seed:Int
 Delay:Int
 Jitter:Int
 Loss:Int
 Copies:Int
 Damage:Int
 Now:Int
 Flights:(List TFlight)
 Sent:Int
 Lost:Int
 deriving DecidableEq
instance:Enc TWire:=⟨10,Aqa,fun x => [.v (.int .i64 x.Seed),.v (.int .i64 x.Delay),.v (.int .i64 x.Jitter),.v (.int .i64 x.Loss),.v (.int .i64 x.Copies),.v (.int .i64 x.Damage),.v (.int .i64 x.Now),sl x.Flights,.v (.int .i64 x.Sent),.v (.int .i64 x.Lost)],fun _=>rfl,fun x=>Enc.gd x.Seed∧Enc.gd x.Delay∧Enc.gd x.Jitter∧Enc.gd x.Loss∧Enc.gd x.Copies∧Enc.gd x.Damage∧Enc.gd x.Now∧Enc.gd x.Flights∧Enc.gd x.Sent∧Enc.gd x.Lost,fun x=>Enc.wt x.Flights⟩
theorem TWire.same {x y:TWire} (h0:x.Seed=y.Seed) (h1:x.Delay=y.Delay) (h2:x.Jitter=y.Jitter) (h3:x.Loss=y.Loss) (h4:x.Copies=y.Copies) (h5:x.Damage=y.Damage) (h6:x.Now=y.Now) (h7:x.Flights=y.Flights) (h8:x.Sent=y.Sent) (h9:x.Lost=y.Lost):x=y:=by cases x; cases y; simp_all
structure TPace where
 Newest:Int
 Their:Int
 At:Int
 Trip:Int
 Samples:Int
 deriving DecidableEq
instance:Enc TPace:=⟨5,Aqa,fun x => [.v (.int .i64 x.Newest),.v (.int .i64 x.Their),.v (.int .i64 x.At),.v (.int .i64 x.Trip),.v (.int .i64 x.Samples)],fun _=>rfl,fun x=>Enc.gd x.Newest∧Enc.gd x.Their∧Enc.gd x.At∧Enc.gd x.Trip∧Enc.gd x.Samples,fun x=>0⟩
theorem TPace.same {x y:TPace} (h0:x.Newest=y.Newest) (h1:x.Their=y.Their) (h2:x.At=y.At) (h3:x.Trip=y.Trip) (h4:x.Samples=y.Samples):x=y:=by cases x; cases y; simp_all
structure TAlarm where
 Tick:Int
 Parts:(List ByteArray)
 deriving DecidableEq
instance:Enc TAlarm:=⟨2,Aqa,fun x => [.v (.int .i64 x.Tick),sl x.Parts],fun _=>rfl,fun x=>Enc.gd x.Tick∧Enc.gd x.Parts,fun x=>Enc.wt x.Parts⟩
theorem TAlarm.same {x y:TAlarm} (h0:x.Tick=y.Tick) (h1:x.Parts=y.Parts):x=y:=by cases x; cases y; simp_all
structure TMatch where
 Level:TLevel
 Seed:Int
 Delay:Int
 Scripts:(List (List Int))
 Peers:(List TPeer)
 Wires:(List (List TWire))
 Paces:(List (List TPace))
 Acks:(List (List Int))
 Clock:Int
 Watchers:(List TSpectator)
 Lines:(List TWire)
 Alarms:(List TAlarm)
 Bad:Int
 deriving DecidableEq
instance:Enc TMatch:=⟨13,Aqa,fun x => [sl x.Level.Rows,.v (.int .i64 x.Seed),.v (.int .i64 x.Delay),sl x.Scripts,sl x.Peers,sl x.Wires,sl x.Paces,sl x.Acks,.v (.int .i64 x.Clock),sl x.Watchers,sl x.Lines,sl x.Alarms,.v (.int .i64 x.Bad)],fun _=>rfl,fun x=>Enc.gd x.Level∧Enc.gd x.Seed∧Enc.gd x.Delay∧Enc.gd x.Scripts∧Enc.gd x.Peers∧Enc.gd x.Wires∧Enc.gd x.Paces∧Enc.gd x.Acks∧Enc.gd x.Clock∧Enc.gd x.Watchers∧Enc.gd x.Lines∧Enc.gd x.Alarms∧Enc.gd x.Bad,fun x=>Enc.wt x.Level+Enc.wt x.Scripts+Enc.wt x.Peers+Enc.wt x.Wires+Enc.wt x.Paces+Enc.wt x.Acks+Enc.wt x.Watchers+Enc.wt x.Lines+Enc.wt x.Alarms⟩
theorem TMatch.same {x y:TMatch} (h0:x.Level=y.Level) (h1:x.Seed=y.Seed) (h2:x.Delay=y.Delay) (h3:x.Scripts=y.Scripts) (h4:x.Peers=y.Peers) (h5:x.Wires=y.Wires) (h6:x.Paces=y.Paces) (h7:x.Acks=y.Acks) (h8:x.Clock=y.Clock) (h9:x.Watchers=y.Watchers) (h10:x.Lines=y.Lines) (h11:x.Alarms=y.Alarms) (h12:x.Bad=y.Bad):x=y:=by cases x; cases y; simp_all

theorem sz_Flight (x:TFlight) (left:Int) (hg:Enc.gd x) (h0:0≤left) (h1:left≤1048576):Con Tryz.prog 290 [] [ag x,ai left] [] (I (szr (Enc.wt x) left)):=by
 obtain⟨g_At,g_Data⟩:=hg
 have hw:Enc.wt x=Enc.wt x.Data:=rfl
 have hm1:decide ((-1:Int)<0)=true:=rfl
 have hgd_Data:x.Data.size≤9223372036854775807:=g_Data
 have hs_Data:Enc.wt x.Data=x.Data.size:=rfl
 by_cases n_Data:left-(x.Data.size:Int)<0
 ·have hb:decide (left-(x.Data.size:Int)<0)=true:=Gqb n_Data
  refine Con.of Tryz.func290 J Tryz.ntmps290 J (fun E => ?_)
  refine Wz [21,10,19,116,84,119,26] ?_
  exact Xl J J (X1 [] Aqc J J (Xq (by rw[Kq Aqa])))
 have hb_Data:decide (left-(x.Data.size:Int)<0)=false:=Gqa n_Data
 refine Con.of Tryz.func290 J Tryz.ntmps290 J (fun E => ?_)
 refine Wz [21,10,19,116,84,83,164] ?_
 exact Xl J J (X1 [] Aqc J J (Xq (by rw[Kr Aqa]; omega)))
theorem to_Flight (x:TFlight) (hg:Enc.wt x≤1048576):Con Tryz.prog 299 [] [ag x] (ownO (Enc.e x)) (.o (.ag (ownV 0 (Enc.e x)))):=by
 have hw:Enc.wt x=Enc.wt x.Data:=rfl
 refine Con.of Tryz.func299 J Tryz.ntmps299 J (fun E => ?_)
 refine Wz [76,52,3,52,23,45,30,100,49] ?_
 exact Xk J J J J (X1 [] Aqc J J J)
theorem eq_Flight (x y:TFlight) (hg:Enc.gd x):Con Tryz.prog 305 [] [ag x,ag y] [] (B (decide (x=y))):=by
 obtain⟨g_At,g_Data⟩:=hg
 by_cases e_At:¬x.At=y.At
 ·have hk:decide (x.At≠y.At)=true:=by simp[e_At]
  refine Con.of Tryz.func305 J Tryz.ntmps305 J (fun E => ?_)
  refine Wz [42,41] ?_
  exact Xl J J (X1 [] Aqc J J (Xi (Gqa fun e=>e_At (by rw[e])).symm))
 have e_At:=Classical.not_not.1 e_At
 have k_At:decide (x.At≠y.At)=false:=by simp[e_At]
 by_cases e_Data:¬x.Data=y.Data
 ·have hk:decide (x.Data≠y.Data)=true:=by simp[e_Data]
  refine Con.of Tryz.func305 J Tryz.ntmps305 J (fun E => ?_)
  refine Wz [42,108,241,26] ?_
  exact Xl J J (X1 [] Aqc J J (Xi (Gqa fun e=>e_Data (by rw[e])).symm))
 have e_Data:=Classical.not_not.1 e_Data
 have k_Data:decide (x.Data≠y.Data)=false:=by simp[e_Data]
 refine Con.of Tryz.func305 J Tryz.ntmps305 J (fun E => ?_)
 refine Wz [42,108,241,33,67] ?_
 exact Xl J J (X1 [] Aqc J J (Xi (Gqb (TFlight.same e_At e_Data)).symm))
theorem to_Pace (x:TPace) (hg:Enc.wt x≤1048576):Con Tryz.prog 227 [] [ag x] (ownO (Enc.e x)) (.o (.ag (ownV 0 (Enc.e x)))):=by
 refine Con.of Tryz.func227 J Tryz.ntmps227 J (fun E => ?_)
 refine Wz [76,52,3,52,23,45,45,45,45,30,100,49] ?_
 exact Xk J J J J (X1 [] Aqc J J J)
theorem eq_Pace (x y:TPace) (hg:Enc.gd x):Con Tryz.prog 246 [] [ag x,ag y] [] (B (decide (x=y))):=by
 obtain⟨g_Newest,g_Their,g_At,g_Trip,g_Samples⟩:=hg
 by_cases e_Newest:¬x.Newest=y.Newest
 ·have hk:decide (x.Newest≠y.Newest)=true:=by simp[e_Newest]
  refine Con.of Tryz.func246 J Tryz.ntmps246 J (fun E => ?_)
  refine Wz [42,41] ?_
  exact Xl J J (X1 [] Aqc J J (Xi (Gqa fun e=>e_Newest (by rw[e])).symm))
 have e_Newest:=Classical.not_not.1 e_Newest
 have k_Newest:decide (x.Newest≠y.Newest)=false:=by simp[e_Newest]
 by_cases e_Their:¬x.Their=y.Their
 ·have hk:decide (x.Their≠y.Their)=true:=by simp[e_Their]
  refine Con.of Tryz.func246 J Tryz.ntmps246 J (fun E => ?_)
  refine Wz [42,108,41] ?_
  exact Xl J J (X1 [] Aqc J J (Xi (Gqa fun e=>e_Their (by rw[e])).symm))
 have e_Their:=Classical.not_not.1 e_Their
 have k_Their:decide (x.Their≠y.Their)=false:=by simp[e_Their]
 by_cases e_At:¬x.At=y.At
 ·have hk:decide (x.At≠y.At)=true:=by simp[e_At]
  refine Con.of Tryz.func246 J Tryz.ntmps246 J (fun E => ?_)
  refine Wz [42,115,41] ?_
  exact Xl J J (X1 [] Aqc J J (Xi (Gqa fun e=>e_At (by rw[e])).symm))
 have e_At:=Classical.not_not.1 e_At
 have k_At:decide (x.At≠y.At)=false:=by simp[e_At]
 by_cases e_Trip:¬x.Trip=y.Trip
 ·have hk:decide (x.Trip≠y.Trip)=true:=by simp[e_Trip]
  refine Con.of Tryz.func246 J Tryz.ntmps246 J (fun E => ?_)
  refine Wz [42,115,108,41] ?_
  exact Xl J J (X1 [] Aqc J J (Xi (Gqa fun e=>e_Trip (by rw[e])).symm))
 have e_Trip:=Classical.not_not.1 e_Trip
 have k_Trip:decide (x.Trip≠y.Trip)=false:=by simp[e_Trip]
 by_cases e_Samples:¬x.Samples=y.Samples
 ·have hk:decide (x.Samples≠y.Samples)=true:=by simp[e_Samples]
  refine Con.of Tryz.func246 J Tryz.ntmps246 J (fun E => ?_)
  refine Wz [42,122,41] ?_
  exact Xl J J (X1 [] Aqc J J (Xi (Gqa fun e=>e_Samples (by rw[e])).symm))
 have e_Samples:=Classical.not_not.1 e_Samples
 have k_Samples:decide (x.Samples≠y.Samples)=false:=by simp[e_Samples]
 refine Con.of Tryz.func246 J Tryz.ntmps246 J (fun E => ?_)
 refine Wz [42,122,118,33,67] ?_
 exact Xl J J (X1 [] Aqc J J (Xi (Gqb (TPace.same e_Newest e_Their e_At e_Trip e_Samples)).symm))
theorem sz_Alarm (x:TAlarm) (left:Int) (hg:Enc.gd x) (h0:0≤left) (h1:left≤1048576):Con Tryz.prog 116 [] [ag x,ai left] [] (I (szr (Enc.wt x) left)):=by
 obtain⟨g_Tick,g_Parts⟩:=hg
 have hw:Enc.wt x=Enc.wt x.Parts:=rfl
 have hm1:decide ((-1:Int)<0)=true:=rfl
 have hc_Parts:=sz_StringS x.Parts (left) g_Parts Aqa Aqa 
 by_cases n_Parts:left<Enc.wt x.Parts
 ·rw[Kq n_Parts] at hc_Parts
  refine Con.of Tryz.func116 J Tryz.ntmps116 J (fun E => ?_)
  refine Wz [21,75] ?_;refine zx (Qj J J (hc_Parts) J) J ?_;refine Wz [119,26] ?_
  exact Xl J J (X1 [] Aqc J J (Xq (by rw[Kq Aqa])))
 rw[Kr Aqa] at hc_Parts
 have hb_Parts:decide (left-Enc.wt x.Parts<0)=false:=Gqa Aqa 
 refine Con.of Tryz.func116 J Tryz.ntmps116 J (fun E => ?_)
 refine Wz [21,75] ?_;refine zx (Qj J J (hc_Parts) J) J ?_;refine Wz [83,164] ?_
 exact Xl J J (X1 [] Aqc J J (Xq (by rw[Kr Aqa]; omega)))
theorem to_Alarm (x:TAlarm) (hg:Enc.wt x≤1048576):Con Tryz.prog 131 [] [ag x] (ownO (Enc.e x)) (.o (.ag (ownV 0 (Enc.e x)))):=by
 have hw:Enc.wt x=Enc.wt x.Parts:=rfl
 refine Con.of Tryz.func131 J Tryz.ntmps131 J (fun E => ?_)
 refine Wz [76,52,3,52,23,45] ?_;refine M1 (Zs J J (to_StringS x.Parts Aqa) J J J) J J ?_;refine Wz [30,100,49] ?_
 exact Xk J J J J (X1 [3] Aqc J J J)
theorem eq_Alarm (x y:TAlarm) (hg:Enc.gd x):Con Tryz.prog 149 [] [ag x,ag y] [] (B (decide (x=y))):=by
 obtain⟨g_Tick,g_Parts⟩:=hg
 by_cases e_Tick:¬x.Tick=y.Tick
 ·have hk:decide (x.Tick≠y.Tick)=true:=by simp[e_Tick]
  refine Con.of Tryz.func149 J Tryz.ntmps149 J (fun E => ?_)
  refine Wz [42,41] ?_
  exact Xl J J (X1 [] Aqc J J (Xi (Gqa fun e=>e_Tick (by rw[e])).symm))
 have e_Tick:=Classical.not_not.1 e_Tick
 have k_Tick:decide (x.Tick≠y.Tick)=false:=by simp[e_Tick]
 by_cases e_Parts:¬x.Parts=y.Parts
 ·have hc:=eq_StringS x.Parts y.Parts g_Parts
  rw[Gqa e_Parts] at hc
  refine Con.of Tryz.func149 J Tryz.ntmps149 J (fun E => ?_)
  refine Wz [42,108] ?_;refine zx (Qj J J (hc) J) J ?_;refine Wz [5,26] ?_
  exact Xl J J (X1 [] Aqc J J (Xi (Gqa fun e=>e_Parts (by rw[e])).symm))
 have e_Parts:=Classical.not_not.1 e_Parts
 have hc_Parts:=eq_StringS x.Parts y.Parts g_Parts
 rw[Gqb e_Parts] at hc_Parts
 refine Con.of Tryz.func149 J Tryz.ntmps149 J (fun E => ?_)
 refine Wz [42,108] ?_;refine zx (Qj J J (hc_Parts) J) J ?_;refine Wz [64,67] ?_
 exact Xl J J (X1 [] Aqc J J (Xi (Gqb (TAlarm.same e_Tick e_Parts)).symm))
end
section
open Go.RowKit

def scriptOk (xs:List Int):Bool:=(decide (1≤xs.length)&&decide (xs.length≤400))&&inOk xs
def scriptIn (xs:List Int) (d t:Int):Int:=if (scriptOk xs=true∧inR d 0 5=true)∧0≤t then (if t<d then 0 else xs.getD ((t-d)%(xs.length:Int)).toNat 0) else -1
theorem script_len {xs:List Int} (h:scriptOk xs=true):1≤xs.length∧xs.length≤400:=by
 unfold scriptOk at h
 simp only[Gqi,decide_eq_true_eq] at h
 exact h.1
theorem script_at {xs:List Int} {d t:Int} (h:scriptOk xs=true) (hd:inR d 0 5=true) (h0:0≤t) (h1:¬t<d):∃ hi:((t-d)%(xs.length:Int)).toNat<xs.length,0≤(t-d)%(xs.length:Int)∧(t-d)%(xs.length:Int)<xs.length∧scriptIn xs d t=xs[((t-d)%(xs.length:Int)).toNat]:=by
 have hl:=script_len h
 have h2:0≤(t-d)%(xs.length:Int):=Int.emod_nonneg _ Aqa 
 have h3:(t-d)%(xs.length:Int)<xs.length:=Int.emod_lt_of_pos _ Aqa 
 have hi:((t-d)%(xs.length:Int)).toNat<xs.length:=Aqa
 refine⟨hi,h2,h3,?_⟩
 rw[scriptIn,if_pos ⟨⟨h,hd⟩,h0⟩,if_neg h1,Gqg,Gqf hi]
 rfl
theorem script_inR {xs:List Int} {n:Nat} (h:n=xs.length):inR (n:Int) 1 400=(decide (1≤xs.length)&&decide (xs.length≤400)):=by
 subst h
 unfold inR
 congr 1 <;> rw[decide_eq_decide] <;> omega
theorem script_no {xs:List Int} {d t:Int} (h:¬((scriptOk xs=true∧inR d 0 5=true)∧0≤t)):scriptIn xs d t = -1:=if_neg h
theorem script_lo {xs:List Int} {d t:Int} (h:scriptOk xs=true) (hd:inR d 0 5=true) (h0:0≤t) (h1:t<d):scriptIn xs d t=0:=by rw[scriptIn,if_pos ⟨⟨h,hd⟩,h0⟩,if_pos h1]
theorem I_scriptOk (xs:List Int) (hn:Enc.gd xs):Con Tryz.prog 135 [] [al xs] [] (B (scriptOk xs)):=by
 have hl:=Yi xs
 refine Con.of Tryz.func135 J Tryz.ntmps135 J (fun E => ?_)
 refine Wz [12,10,14,207,0,146] ?_;refine zx (Qt.grdT J J J (.hit .stop) (fun hgrd=>Z3 J J J)) J ?_;refine Wz [242,25,0,146] ?_;refine zx (Qt.grdT J J J (.hit .stop) (fun hgrd=>Qj J J (Xr xs hn) J)) J ?_;refine Wz [25,53] ?_
 exact Xl J J (X1 [] Aqc J J (Xi (by rw[hl,scriptOk]; congr 2 <;> simp <;> omega)))
theorem S_ScriptInput (xs:List Int) (d t:Int) (hn:Enc.gd xs) (ht:I64 t):Con Tryz.prog 165 [] [al xs,ai d,ai t] [] (I (scriptIn xs d t)):=by
 have hl:=Yi xs
 have hx:=hn.1
 obtain⟨ht1,ht2⟩:=ht
 refine Con.of Tryz.func165 J Tryz.ntmps165 J (fun E => ?_)
 refine Wz [125,14] ?_;refine zx (Qj J J (X0 (els xs).length 1 400) J) J ?_;refine Wz [5,0,109] ?_;refine zx (Qt.grdF J J J (.hit .stop) (fun hgrd=>Qj J J (S_inputsOk xs hn) J)) J ?_;refine Wz [175,110,0,109] ?_;refine zx (Qt.grdF J J J (.hit .stop) (fun hgrd=>Qj J J (X0 d 0 5) J)) J ?_;refine Wz [175,110,0,109] ?_;refine zx (Qt.grdF J J J (.hit .stop) (fun hgrd=>Z9 J J J J)) J ?_;refine Wz [51] ?_
 refine Xb J (fun h => ?_) (fun h => ?_)
 ·rw[script_no (fun ⟨⟨q1,q2⟩,q3⟩=>by rw[script_inR hl] at h; unfold scriptOk at q1; rw[Gqi] at q1; rw[q1.1,q1.2,q2] at h; simp at h; omega)]
  refine Wz [39] ?_
  exact Xl J J (X1 [] Aqc J J J)
 simp only[Gql,Gqu,decide_eq_false_iff_not] at h
 obtain⟨⟨⟨q0,q1⟩,q2⟩,q3⟩:=h
 rw[script_inR hl] at q0
 have q1:scriptOk xs=true:=by unfold scriptOk; rw[q0,q1]; rfl
 have hsl:=script_len q1
 have hd:=Yx.1 q2
 refine Wz [15,43,38] ?_
 refine Xb J (fun h => ?_) (fun h => ?_)
 ·rw[script_lo q1 q2 Aqa (Gqc h)]
  refine Wz [39] ?_
  exact Xl J J (X1 [] Aqc J J J)
 have h9:=Gqd h
 obtain⟨hi,h2,h3,h4⟩:=script_at q1 q2 Aqa (Gqd h)
 have hat:(els xs)[((t-d)%((els xs).length:Int)).toNat]? = some (Enc.e xs[((t-d)%(xs.length:Int)).toNat]):=by rw[hl]; simp[els,hi]
 have h5:0≤(t-d)%((els xs).length:Int)∧(t-d)%((els xs).length:Int)<((els xs).length:Int):=by rw[hl]; exact⟨h2,h3⟩
 rw[h4]
 refine Wz [15,169,84,0,14,170,80,53] ?_
 exact Xl J J (X1 [] Aqc J J J)
end
section
open Go.RowKit

def flightOk (f:TFlight):Bool:=inR f.At 0 1100000&&inR (f.Data.size:Int) 1 20000
def WireP (w:TWire):Prop :=
 (inR w.Seed 0 65535=true∧inR w.Delay 0 12=true∧inR w.Jitter 0 12=true) ∧
 (inR w.Loss 0 100=true∧inR w.Copies 0 100=true∧inR w.Damage 0 100=true) ∧
 (inR w.Now 0 1000000=true∧inR w.Sent 0 1000000=true∧inR w.Lost 0 1000000=true) ∧
 w.Flights.length≤200∧w.Flights.all flightOk=true
instance (w:TWire):Decidable (WireP w):=by unfold WireP; infer_instance
def wireOk (w:TWire):Bool:=decide (WireP w)
def paceOk (q:TPace):Bool:=(((inR q.Newest 0 1000001&&inR q.Their 0 1000001)&&inR q.At 0 1000001)&&inR q.Trip 0 1000001)&&inR q.Samples 0 1000001
noncomputable def peerIn (m:TMatch) (i:Nat) (p:TPeer):Bool :=
 ((peerOk p&&decide (p.Me=(i:Int)))&&decide ((p.Tracks.length:Int)=(m.Scripts.length:Int)))&&((decide (p.Base.Level=m.Level)&&decide (p.Seed=m.Seed))&&decide (p.Delay=m.Delay))
def PeersP (m:TMatch):Prop:=m.Peers.length=m.Scripts.length∧∀ (i:Nat) p,m.Peers[i]? = some p→peerIn m i p=true
def LinkLen (m:TMatch) (i:Nat):Prop:=∀ ws qs ks,m.Wires[i]? = some ws→m.Paces[i]? = some qs→m.Acks[i]? = some ks→ws.length=m.Peers.length∧qs.length=m.Peers.length∧ks.length=m.Peers.length
def LinkAt (m:TMatch) (i j:Nat):Prop:=∀ ws qs ks p w q a,m.Wires[i]? = some ws→m.Paces[i]? = some qs→m.Acks[i]? = some ks→m.Peers[i]? = some p→ws[j]? = some w→qs[j]? = some q→ks[j]? = some a→wireOk w=true∧paceOk q=true∧inR a 0 (lenAt p.Tracks i:Nat)=true
def LinksP (m:TMatch):Prop :=
 (m.Wires.length=m.Peers.length∧m.Paces.length=m.Peers.length∧m.Acks.length=m.Peers.length) ∧
 ∀ i,i<m.Peers.length→LinkLen m i∧∀ j:Nat,j<m.Peers.length→LinkAt m i j
noncomputable def watcherIn (m:TMatch) (s:TSpectator) (l:TWire):Bool :=
 (wireOk l&&worldOk s.World)&&(decide (s.World.Level=m.Level)&&decide ((s.World.Scores.length:Int)=(m.Scripts.length:Int)))
def WatchersP (m:TMatch):Prop:=(m.Watchers.length≤3∧m.Lines.length=m.Watchers.length)∧∀ (k:Nat) s l,m.Watchers[k]? = some s→m.Lines[k]? = some l→watcherIn m s l=true
def HeadP (m:TMatch):Prop:=levelOk m.Level=true∧inR m.Seed 0 65535=true∧inR m.Delay 0 5=true∧inR m.Clock 0 1000=true∧inR m.Bad 0 1000000=true
def MatchP (m:TMatch):Prop:=HeadP m∧(1≤m.Scripts.length∧m.Scripts.length≤4)∧m.Scripts.all scriptOk=true∧PeersP m∧LinksP m∧WatchersP m
noncomputable def peersM (m:TMatch):Bool:=@decide (PeersP m) (Classical.propDecidable _)
noncomputable def linksM (m:TMatch):Bool:=@decide (LinksP m) (Classical.propDecidable _)
noncomputable def watchersM (m:TMatch):Bool:=@decide (WatchersP m) (Classical.propDecidable _)
noncomputable def matchOk (m:TMatch):Bool:=@decide (MatchP m) (Classical.propDecidable _)
theorem dT {P:Prop} (h:P):@decide P (Classical.propDecidable _)=true:=@decide_eq_true _ (Classical.propDecidable _) h
theorem dF {P:Prop} (h:¬P):@decide P (Classical.propDecidable _)=false:=@decide_eq_false _ (Classical.propDecidable _) h
theorem dS {P:Prop} (h:@decide P (Classical.propDecidable _)=true):P:=@of_decide_eq_true _ (Classical.propDecidable _) h
end
section
open Go.RowKit

def dvGo (s:ByteArray) (p:Nat) (n:Int) (k:Nat):Nat→Option (Int×Nat)
 |0=>none
 | f+1=>if p+k<s.size then
   (if 128≤byteAt s (p+k) then dvGo s p (n+byteAt s (p+k)%128*2 ^ (7*k)) (k+1) f
    else if (byteAt s (p+k)=0∧0<k)∨1099511627775<n+byteAt s (p+k)%128*2 ^ (7*k) then none
    else some (n+byteAt s (p+k)%128*2 ^ (7*k),k+1)) else none
def decVar (s:ByteArray) (p:Int):Option (Int×Nat):=if 0≤p∧p<s.size then dvGo s p.toNat 0 0 6 else none
@[reducible] def bv (b:Bool):V1 := .rd [] (.v (.bool b))
@[reducible] def jn (n:Int):V1:=(Aqh n)
theorem byteAt_list {s:ByteArray} {i:Nat} (h:i<s.size):∃ b:UInt8,s.data.toList[i]? = some b∧byteAt s i=(b.toNat:Int):=by
 have h1:i<s.data.size:=h
 refine⟨s.data[i],by simp[h1],?_⟩
 unfold byteAt
 have:s[i]? = some s.data[i]:=by
  rw[getElem?_pos s i h]
  rfl
 rw[this]
 rfl
end
section
open Go.RowKit

def signed (n:Int):Int:=if 0≤n∧n≤1099511627775 then (if n%2=0 then n/2 else -((n+1)/2)) else 0
/-! ### Lists -/
/-! ### Texts -/
def unpackText (s:ByteArray) (p:Int):Option (ByteArray×Nat):=match decVar s p with
 |none=>none
 |some (n,k)=>if (s.size:Int)-p-k<n then none else some (s.extract (p+k).toNat (p+k+n).toNat,k+n.toNat)
end
section
open Go.RowKit
end
section
open Go.RowKit

theorem OW.take {w:World} {k:Nat} {es:List (List T)} {v:Value} {fp:List Nat} (h:OW w (.sl k es) v fp) (hnd:fp.Nodup) {n:Nat} (hn:n≤es.length):∃ A c fp',v = .slice A es.length c∧es.length≤c∧OW w (.sl k (es.take n)) (.slice (if c=0 then A else A.map (·.add (0*k))) (n-0) (c-0)) fp'∧(∀ b∈fp',b∈fp)∧fp'.Nodup:=by
 cases h with
 |nil =>
  have:n=0:=by simpa using hn
  subst this
  exact⟨none,0,[],J,Gqk _,by simpa using OW.nil (w:=w) k,Aqd,Aqd⟩
 | sl _ b o _ c tid cur fz val fps hg hz hc hm hs hp hk hf hfk hv ht =>
  have hA:(if c=0 then some (⟨b,o,none⟩:Addr) else (some (⟨b,o,none⟩:Addr)).map (·.add (0*k)))=some ⟨b,o,none⟩:=by
   split
   ·rfl
   ·simp[Addr.add]
  have hl:(es.take n).length=n:=by simp; omega
  have hfl:fps.flatten.flatten=(fps.take n).flatten.flatten++(fps.drop n).flatten.flatten:=by
   rw[←Gqt,←Gqt,Gxg]
  refine⟨some ⟨b,o,none⟩,c,b::(fps.take n).flatten.flatten,J,hc,?_,fun x hx => ?_,?_⟩
  ·rw[hA]
   have h1:=OW.sl (w:=w) (es.take n) b o k c tid cur fz val (fps.take n) hg hz Aqa hm hs hp (fun e he=>hk e (List.mem_of_mem_take he)) (by simp[hf]) (fun f hf'=>hfk f (List.mem_of_mem_take hf'))
    (fun i j hi hj=>hv i j Aqa hj) (fun i j e t fs f g1 g2 g3 g4=>by
     have hi:=Yu g1
     rw[hl] at hi
     rw[Gxf,if_pos hi] at g1 g3
     exact ht i j e t fs f g1 g2 g3 g4)
   rw[hl] at h1
   simpa using h1
  ·rcases List.mem_cons.1 hx with rfl | hx
   ·simp
   ·exact Gq7 _ (by rw[hfl]; exact List.mem_append_left _ hx)
  ·rw[hfl,←List.cons_append] at hnd
   exact (List.nodup_append.1 hnd).1

def allP {α:Type} (f:α→Prop):List α→Prop
 | []=>True
 |x::l=>f x∧allP f l
theorem X6 {α β:Type} {f:α→Prop} {g h:α→β} (hgh:∀ x,f x→g x=h x):∀ {l:List α},allP f l→l.map g=l.map h
 | [],_=>rfl
 |x::l,hl=>by rw[List.map_cons,List.map_cons,hgh x hl.1,X6 hgh hl.2]
section
variable {P:Program} {E:Env} {ops:Array Oper} {o:Oper} {st:St} {rest:List Oper} {QQ:Exit→St→Prop} {t:TypeId} {y u:Operand} {rs:List Nat} {j:Int} {m:Nat}
end
section
variable {P:Program} {E:Env} {ops:Array Oper} {o:Oper} {st:St} {rest:List Oper} {QQ:Exit→St→Prop} {t:TypeId} {y u:Operand} {rs:List Nat} {j:Int}
end
end
section
open Go.RowKit

def V2.allk (f:V1→Prop):V2→Prop
 | .c x=>f x
 | .ag xs=>allP f xs
def V.allk (f:V1→Prop):V→Prop
 | .o x=>x.allk f
 | .tu xs=>allP (V2.allk f) xs
 | .iff _ x=>x.allk f
def Ob.allk (f:V1→Prop):Ob→Prop
 | .box cs=>allP f cs
 | .gh _ x=>x.allk f
 | .lk x y=>f x∧f y
 |_=>True
section
variable {f:V1→Prop} {g h:V1→V1} (hgh:∀ x,f x→g x=h x)
include hgh
theorem V2.allk_eq (x:V2) (hx:x.allk f):x.mapk g=x.mapk h:=by
 cases x with
 |c x=>exact congrArg V2.c (hgh x hx)
 |ag xs=>exact congrArg V2.ag (X6 hgh hx)
theorem V.allk_eq (x:V) (hx:x.allk f):x.mapk g=x.mapk h:=by
 cases x with
 |o x=>exact congrArg V.o (V2.allk_eq hgh x hx)
 |tu xs=>exact congrArg V.tu (X6 (V2.allk_eq hgh) hx)
 |iff cs x=>exact congrArg (V.iff cs) (V2.allk_eq hgh x hx)
theorem Ob.allk_eq (x:Ob) (hx:x.allk f):x.mapk g=x.mapk h:=by
 cases x with
 |box cs=>exact congrArg Ob.box (X6 hgh hx)
 |gh i x=>exact congrArg (Ob.gh i) (V2.allk_eq hgh x hx)
 |lk x y=>exact show Ob.lk _ _=Ob.lk _ _ by rw[hgh x hx.1,hgh y hx.2]
 |_=>rfl
end
def V1.leok (p kk i j:Nat):V1→Prop
 | .le q k a b=>match Nat.beq q p with
  |true=>k=kk∧a=i∧b=j
  |false=>True
 |_=>True
def V1.tole (p m:Nat):V1→V1
 | .le q k a b=>match Nat.beq q p with
  |true => .ref m
  |false=>(V1.le q k a b).killw [p,m] [p]
 |x=>x.killw [p,m] [p]
def V1.tole0 (p m kk i j:Nat):V1→V1
 | .le q k a b=>match Nat.beq q p with
  |true=>if k=kk∧a=i∧b=j then .ref m else .un
  |false=>(V1.le q k a b).killw [p,m] [p]
 |x=>x.killw [p,m] [p]
theorem V1.tole_eq {p m kk i j:Nat} (x:V1) (hx:x.leok p kk i j):x.tole0 p m kk i j=x.tole p m:=by
 cases x with
 | le q k a b =>
  simp only[V1.tole0,V1.tole]
  simp only[V1.leok] at hx
  split
  ·rename_i hq
   rw[hq] at hx
   exact if_pos hx
  ·rfl
 |_=>rfl
theorem Wk.split0 {st:St} {p kk i j k':Nat} {es es0:List (List T)} {e:List T} (hp:st.objs[p]? = some (.row kk es)) (he:es[i]? = some e) (hx:e[j]? = some (.sl k' es0)) :
  Wk st ⟨st.n,st.tmps.map fun t=>(t.1,t.2.mapk (V1.tole0 p st.objs.length kk i j)),((st.objs.map (Ob.mapk (V1.tole0 p st.objs.length kk i j))).set p (.row kk (es.set i (splice e j [.un])))) ++ [.row k' es0]⟩:=by
 intro w H F a h1
 obtain⟨v,fp,e1,e2⟩:=h1.ow hp
 have hnd:=h1.ok.nodup p
 rw[e1] at hnd
 have hnil:H st.objs.length = .nil:=by
  have:=h1.obs st.objs.length
  simpa[Gqg,RB] using this
 have hplt:=Yu hp
 obtain⟨b,o,c,u,f,rfl,hbf,hcell,hO,hfn,hsub,hback⟩:=e2.inner hnd he hx
 have hlt:∀ x∈fp,x<w.heap.size:=fun x hx=>h1.ok.lt (p:=p) (by rw[e1]; exact hx)
 have hu1:u.oneCell'=true:=OW.one hO
 obtain⟨fp',g1,g2,g3⟩:=hback w .un [] (fun _ _ _=>rfl) (.un u hu1) List.nodup_nil (fun x hx=>by simp at hx)
 have g4:∀ x∈fp',x∈fp∧x∉f:=fun x hx=>(g3 x hx).resolve_right Aqd 
 obtain⟨N,hN⟩:∃ N,N=st.objs.length:=⟨_,rfl⟩
 rw[←hN] at hnil ⊢
 have hNp:N≠p:=Aqa
 obtain⟨H',hH'⟩:∃ H':Hs,H'=fun q=>if q=N then .ow (.sl k' es0) u f else if q=p then .ow (.sl kk (es.set i (splice e j [.un]))) (.slice (some ⟨b,o,none⟩) es.length c) fp' else H q:=⟨_,rfl⟩
 have hHN:H' N = .ow (.sl k' es0) u f:=by rw[hH']; exact if_pos rfl
 have hHp:H' p = .ow (.sl kk (es.set i (splice e j [.un]))) (.slice (some ⟨b,o,none⟩) es.length c) fp':=by rw[hH']; simp[Ne.symm hNp]
 have hHo:∀ q,q≠N→q≠p→H' q=H q:=fun q h1 h2=>by rw[hH']; simp only; rw[if_neg h1,if_neg h2]
 have hin:∀ q x,x∈(H' q).fp→(q=N∧x∈f)∨(q=p∧x∈fp∧x∉f)∨(q≠N∧q≠p∧x∈(H q).fp):=fun q x hx=>by
  by_cases hq:q=N
  ·subst hq; rw[hHN] at hx; exact .inl ⟨rfl,hx⟩
  ·by_cases hqp:q=p
   ·subst hqp; rw[hHp] at hx; exact .inr (.inl ⟨rfl,g4 x hx⟩)
   ·rw[hHo q hq hqp] at hx; exact .inr (.inr ⟨hq,hqp,hx⟩)
 have hpf:∀ x,x∈fp→x∈(H p).fp:=fun x hx=>by rw[e1]; exact hx
 have hok:Ok w H' F:=by
  refine⟨fun q => ?_,fun q => ?_,fun q r x h2 h3 => ?_,fun q x h2 => ?_,h1.ok.flt⟩
  ·by_cases hq:q=N
   ·subst hq; rw[hHN]; exact hO
   ·by_cases hqp:q=p
    ·subst hqp; rw[hHp]; exact g1
    ·rw[hHo q hq hqp]; exact h1.ok.says q
  ·by_cases hq:q=N
   ·subst hq; rw[hHN]; exact hfn
   ·by_cases hqp:q=p
    ·subst hqp; rw[hHp]; exact g2
    ·rw[hHo q hq hqp]; exact h1.ok.nodup q
  ·rcases hin q x h2 with ⟨rfl,k1⟩ | ⟨rfl,k1,k2⟩ | ⟨k1,k2,k3⟩ <;> rcases hin r x h3 with ⟨e5,m1⟩ | ⟨e5,m1,m2⟩ | ⟨m1,m2,m3⟩
   ·exact e5.symm
   ·exact absurd k1 m2
   ·exact absurd (h1.ok.disj r p x m3 (hpf x (hsub x k1))) m2
   ·exact absurd m1 k2
   ·exact e5.symm
   ·exact absurd (h1.ok.disj r q x m3 (hpf x k1)) m2
   ·exact absurd (h1.ok.disj q p x k3 (hpf x (hsub x m1))) k2
   ·exact absurd (h1.ok.disj q p x k3 (hpf x m1)) k2
   ·exact h1.ok.disj q r x k3 m3
  ·rcases hin q x h2 with ⟨rfl,k1⟩ | ⟨rfl,k1,k2⟩ | ⟨k1,k2,k3⟩
   ·exact h1.ok.free p x (hpf x (hsub x k1))
   ·exact h1.ok.free q x (hpf x k1)
   ·exact h1.ok.free q x k3
 have hfpo:∀ q x,x∈(H' q).fp→∃ r,x∈(H r).fp:=fun q x hx=>by
  rcases hin q x hx with ⟨rfl,k1⟩ | ⟨rfl,k1,k2⟩ | ⟨k1,k2,k3⟩
  ·exact⟨p,hpf x (hsub x k1)⟩
  ·exact⟨q,hpf x k1⟩
  ·exact⟨q,k3⟩
 have hghs:∀ q i v,H' q = .gh i v→∃ r,H r = .gh i v:=fun q i v hq=>by
  by_cases hqN:q=N
  ·subst hqN; rw[hHN] at hq; cases hq
  ·by_cases hqp:q=p
   ·subst hqp; rw[hHp] at hq; cases hq
   ·exact⟨q,by rw[←hHo q hqN hqp]; exact hq⟩
 have htn:Turn w H w H' [p,N]:=⟨rfl,rfl,rfl,Gqk _,fun _ _ _=>rfl,fun q hq=>hHo q (fun e=>hq (by simp[e])) (fun e=>hq (by simp[e])),fun q x hx => .inl (hfpo q x hx),hghs⟩
 have hplace:∀ q ∈ [p],Place (H q) (H' q):=fun q hq=>by
  have:q=p:=by simpa using hq
  subst this
  exact .inl ⟨_,_,_,_,_,e1,hHp⟩
 have hone:∀ x v,R1 w H F x v→R1 w H' F (V1.tole0 p N kk i j x) v:=fun x v hx=>by
  cases x with
  | le q k a b' =>
   simp only[V1.tole0]
   split
   ·rename_i hq
    have hqp:=Gxa hq
    subst hqp
    split
    ·rename_i hc
     rw[hc.1,hc.2.1,hc.2.2] at hx
     obtain⟨b2,o2,n2,c2,x2,fp2,k1,k2,k3,k4⟩:=hx
     rw[e1] at k1
     simp only[Pc.ow.injEq,Value.slice.injEq,Option.some.injEq,Addr.mk.injEq] at k1
     obtain⟨_,⟨⟨rfl,rfl,_⟩,_,_⟩,_⟩:=k1
     rw[hcell] at k4
     simp only[Option.some.injEq] at k4
     subst k4
     exact⟨_,_,hHN⟩
    ·trivial
   ·exact R1.killw h1.ok htn hplace hx
  |_=>exact R1.killw h1.ok htn hplace hx
 refine⟨H',h1.mapk (V1.tole0 p N kk i j) hone hok _ (fun q => ?_),hfpo,hghs⟩
 by_cases hqN:q=N
 ·subst hqN
  rw[Yt (x := .row k' es0) (by rw[Gqy (by simp; omega)]; simp[hN])]
  exact⟨_,_,hHN⟩
 by_cases hqp:q=p
 ·subst hqp
  rw[Yt (x := .row kk (es.set i (splice e j [.un]))) (by rw[Gqw (by simpa using hplt)]; simp[hplt])]
  exact⟨_,_,hHp⟩
 ·rcases Gqq q st.objs.length with hlt2 | hge
  ·rw[Gqg,Gqw (by simpa using hlt2),Gq9 (Ne.symm hqp),Gqj]
   have h2:=h1.obs q
   rw[Gqg] at h2
   have h3:H' q=H q:=hHo q hqN hqp
   cases ho:st.objs[q]? with
   |none=>rw[ho] at h2; exact h3.trans h2
   |some ob=>rw[ho] at h2; exact RB.mapk hone h3 h2
  ·rw[Gqg,List.getElem?_eq_none (by simp; omega)]
   have h2:=h1.obs q
   rw[Gqg,List.getElem?_eq_none hge] at h2
   exact (hHo q hqN hqp).trans h2
theorem Wk.split {st:St} {p kk i j k':Nat} {es es0:List (List T)} {e:List T} (hp:st.objs[p]? = some (.row kk es)) (he:es[i]? = some e) (hx:e[j]? = some (.sl k' es0)) (ht:allP (fun t:Nat×V=>t.2.allk (V1.leok p kk i j)) st.tmps) (ho:allP (Ob.allk (V1.leok p kk i j)) st.objs) :
  Wk st ⟨st.n,st.tmps.map fun t=>(t.1,t.2.mapk (V1.tole p st.objs.length)),((st.objs.map (Ob.mapk (V1.tole p st.objs.length))).set p (.row kk (es.set i (splice e j [.un])))) ++ [.row k' es0]⟩:=by
 have h:=Wk.split0 hp he hx
 rw[X6 (g:=fun e:Nat×V=>(e.1,e.2.mapk (V1.tole0 p st.objs.length kk i j))) (h:=fun e:Nat×V=>(e.1,e.2.mapk (V1.tole p st.objs.length))) (fun e he=>by rw[V.allk_eq V1.tole_eq e.2 he]) ht,X6 (fun x hx=>Ob.allk_eq V1.tole_eq x hx) ho] at h
 exact h
end
section
open Go.RowKit
end
section
open Go.RowKit
end
section
open Go.RowKit

/-! ### Numbers -/
/-! ### Lists -/
/-! ### Texts -/
/-! ### Columns -/
/-! ### DecodeStream -/
end
section
open Go.RowKit
end
section
open Go.RowKit

theorem Wk.nilbox {st:St} {p i:Nat} (k:Nat) {cs:List V1} {qs:List Nat} (hp:st.objs[p]? = some (.box cs)) (hc:cs[i]? = some (.rd qs (.v (.slice none 0 0)))):Wk st ⟨st.n,st.tmps,(st.objs.set p (.box (cs.set i (.ref st.objs.length)))) ++ [.row k []]⟩:=by
 intro w H F a h
 have hnil:H st.objs.length = .nil:=by
  have:=h.obs st.objs.length
  simpa[Gqg,RB] using this
 have hlt:=Yu hp
 obtain⟨H',hH'⟩:∃ H':Hs,H'=H.put st.objs.length (.ow (.sl k []) (.slice none 0 0) []):=⟨_,rfl⟩
 have hin:H' st.objs.length = .ow (.sl k []) (.slice none 0 0) []:=by rw[hH']; exact Hs.put_self _ _ _
 have hout:∀ q,q≠st.objs.length→H' q=H q:=fun q hq=>by rw[hH']; exact Hs.put_ne _ _ hq
 have hfp:∀ q,(H' q).fp=(H q).fp:=fun q=>by
  by_cases e:q=st.objs.length
  ·rw[e,hin,hnil]; rfl
  ·rw[hout q e]
 have hgh:∀ q i v,H' q = .gh i v→∃ r,H r = .gh i v:=fun q i v hq=>by
  by_cases e:q=st.objs.length
  ·rw[e,hin] at hq; cases hq
  ·exact⟨q,by rw[←hout q e]; exact hq⟩
 have hgr:Grow w H F w H' F:=⟨Below.refl _ _,fun q hq=>hout q fun e=>hq (by rw[e]; exact hnil),fun _ h=>h,fun _ h => .inl h,fun q hq b hb=>by rw[hfp,hq] at hb; simp[Pc.fp] at hb,hgh⟩
 refine⟨H',⟨⟨fun q => ?_,fun q=>by rw[hfp]; exact h.ok.nodup q,fun q r b h1 h2=>by rw[hfp] at h1 h2; exact h.ok.disj q r b h1 h2,fun q b h1=>by rw[hfp] at h1; exact h.ok.free q b h1,h.ok.flt⟩,fun q => ?_,fun e=>hgr.rv (h.tmp e),h.size,h.defers⟩,fun q b hb=>⟨q,by rw[←hfp]; exact hb⟩,hgh⟩
 ·by_cases e:q=st.objs.length
  ·rw[e,hin]; exact OW.nil _
  ·rw[hout q e]; exact h.ok.says q
 ·show RB w H' F q ((st.objs.set p (.box (cs.set i (.ref st.objs.length))) ++ [Ob.row k []]).getD q .gone)
  by_cases e:q=st.objs.length
  ·rw[show (st.objs.set p (.box (cs.set i (.ref st.objs.length))) ++ [Ob.row k []]).getD q .gone = .row k [] by simp[Gqg,e]]
   exact⟨_,_,by rw[e]; exact hin⟩
  ·rcases Gqq q st.objs.length with h1 | h1
   ·by_cases hqp:q=p
    ·subst hqp
     rw[show (st.objs.set q (.box (cs.set i (.ref st.objs.length))) ++ [Ob.row k []]).getD q .gone = .box (cs.set i (.ref st.objs.length)) by simp[Gqg,Gqw,h1]]
     obtain⟨g,t,vs,e1,e2,e3,e4⟩:=h.bx hp
     have hb:=h.obs q
     rw[Yt hp] at hb
     obtain⟨g,t,vs,k1,k2,k3⟩:=hb
     refine⟨g,t,vs,(hout q e).trans k1,by simpa using k2,fun j c u h4 h5 => ?_⟩
     rw[List.getElem?_set] at h4
     split at h4
     ·rename_i hij
      subst hij
      split at h4
      ·simp only[Option.some.injEq] at h4
       subst h4
       have h6:=k3 i _ u hc h5
       obtain⟨h7,_⟩:=RO.plain h6.1
       exact⟨⟨_,_,by rw[hin,←h7]⟩,h6.2⟩
      ·cases h4
     ·have h6:=k3 j c u h4 h5
      exact⟨hgr.r1 h6.1,h6.2⟩
    ·rw[show (st.objs.set p (.box (cs.set i (.ref st.objs.length))) ++ [Ob.row k []]).getD q .gone=st.objs.getD q .gone by
      rw[Gqg,Gqw (by simpa using h1),Gq9 (Ne.symm hqp),Gqg]]
     by_cases hn:H q = .nil
     ·have h2:=h.obs q
      have h3:H' q = .nil:=(hout q e).trans hn
      cases ho:st.objs.getD q .gone with
      |gone=>exact h3
      |hole=>trivial
      |box cs=>rw[ho] at h2; obtain⟨a,t,vs,e,_⟩:=h2; rw[hn] at e; cases e
      |row k es=>rw[ho] at h2; obtain⟨v,fp,e⟩:=h2; rw[hn] at e; cases e
      |gh i x=>rw[ho] at h2; obtain⟨v,e,_⟩:=h2; rw[hn] at e; cases e
      |lk x y=>rw[ho] at h2; obtain⟨v,e,_⟩:=h2; rw[hn] at e; cases e
     ·exact hgr.rb hn (h.obs q)
   ·rw[show (st.objs.set p (.box (cs.set i (.ref st.objs.length))) ++ [Ob.row k []]).getD q .gone=Ob.gone by
     rw[Gqg,List.getElem?_eq_none (by simp; omega)]; rfl]
    refine (hout q e).trans ?_
    have:=h.obs q
    simpa[Gqg,RB,h1] using this
section
variable {P:Program} {ops:Array Oper} {o:Oper} {st:St} {m:Nat} {t e:TypeId} {y z:Operand} {zs:List Value} {by_:Nat}
theorem Zq [hm:TyMake P t e zs by_] (ho:o.op = .buildSlice t 0 #[]) (hg:o.guard=none) (hz0:zs.isEmpty=false):Qt P ops o st (.o (.c (.sb m 0 zs.length))) [.box []] m :=
 .new hg fun a w H F hr hn=>by
  obtain⟨inf,hi,hzz⟩:=Option.map_eq_some_iff.1 hm.info
  refine⟨.slice (some ⟨w.heap.size,0,none⟩) 0 0,w.alloc (.cells #[] e),.box w.heap.size e [],?_,(Below.refl _ _).alloc (Gqk _) _,heap_alloc_new w _,by simp[Pc.fp,Pc.ng],fun b hb=>by simp[Pc.fp] at hb; omega,fun H' hgr hq=>⟨⟨_,_,_,hq,J,fun i c u h4 h5=>by simp at h4⟩,_,_,_,hq,Aqd,Nat.zero_le _,J⟩⟩
  unfold execOp
  simp[ho,Instr.buildSlice,run_underlying hm.slice,Go.sizeOf,typeInfo,hi,Instr.fill,newRow]
  rw[show (Array.range 0).map (fun _:Nat=>(default:Value))=#[] from Array.eq_empty_of_size_eq_zero Aqd]
theorem run_append_z {tx ty:TypeId} [hm:TyMake P t e zs by_] {w:World} (A:Option Addr) {x:Value} {n:Nat} {news:List Value} (hsrc:Src P zs.length tx x n news w) (hn:0<n) (hb:n*by_≤140737488355328) (h63:n≤9223372036854775807) :
  (Builtin.append_ #[t,tx] ty #[.slice A 0 0,x]).run P w=(Builtin.append_ #[t,tx] ty #[.slice none 0 0,x]).run P w:=by
 obtain⟨i,hi,hzz⟩:=Option.map_eq_some_iff.1 hm.info
 simp only[Prod.mk.injEq] at hzz
 obtain⟨hz1,hs,hb1⟩:=hzz
 obtain⟨z,hz2,hz3⟩:=Option.map_eq_some_iff.1 hz1
 have hsrc:Src P i.size tx x n news w:=by rw[hs]; exact hsrc
 have h0:((0+n:Nat):Int)≤9223372036854775807:=Aqa
 rw[run_append_grow_src (P:=P) (w:=w) t tx ty e i z hm.slice hi hz2 A 0 0 [] (by cases A <;> simp[Builtin.firstCells,loadCells,loadCellsFrom]) x n news hsrc Aqa h0 (growslice_fits Aqa (by rw[hb1]; simpa using hb)),
  run_append_grow_src (P:=P) (w:=w) t tx ty e i z hm.slice hi hz2 none 0 0 [] (by simp[Builtin.firstCells]) x n news hsrc Aqa h0 (growslice_fits Aqa (by rw[hb1]; simpa using hb))]
theorem src_any [hm:TyMake P t e zs by_] {w:World} {H:Hs} {F:Nat→Prop} {a:Act} (h:R0 w H F st a) {es':List (List T)} {x:V1} {u:Value} {kk:Nat} (hkz:kk=zs.length) (hz0:zs ≠ []) (hx:R1 w H F x u) (hs:srcOf st.objs x=some es') (hpl:plainT es') (hkk:∀ e∈es',e.length=kk):Src P kk t u es'.length (flatV (plainV' es') es'.length kk) w:=by
 obtain⟨A,c,rfl,hsrc⟩:=src_form h hx hs
 have hcell:∀ i j (hi:i<es'.length) (hj:j<kk),∃ b o',A=some ⟨b,o',none⟩∧w.cell? ⟨b,o'+i*kk+j,none⟩=some (plainV' es' i j)∧(plainV' es' i j).oneCell'=true:=by
  intro i j hi hj
  have h6:=Gqf hi
  obtain⟨b,o',k,hA,hp,hk,hc⟩:=hsrc i _ h6
  have h7:k=kk:=by rw[←hk,hkk _ (Gqe hi)]
  subst h7
  have h8:j<(es'[i]).length:=Aqa
  obtain⟨u',h9,h10⟩:=hc j _ (Gqf h8)
  obtain⟨u'',h11⟩:=hpl _ (Gqe hi) _ (Gqe h8)
  rw[h11] at h10
  obtain⟨rfl,h12⟩:=RO.plain h10
  rw[plainV'_at h6 (by rw[Gqf h8,h11])]
  exact⟨b,o',hA,h9,h12⟩
 refine src_slice (zs:=zs) es' (plainV' es') A c (fun hne => ?_) fun i j hi hj=>by obtain⟨_,_,_,_,h⟩:=hcell i j hi hj; exact h
 have hl:0<es'.length:=Gxr.2 hne
 have hk0:0<kk:=by rw[hkz]; exact Gxr.2 hz0
 obtain⟨b,o',hA,_⟩:=hcell 0 0 hl hk0
 refine⟨b,o',hA,fun i j hi hj => ?_⟩
 obtain⟨b',o'',hA',h1,_⟩:=hcell i j hi hj
 rw[hA] at hA'
 simp only[Option.some.injEq,Addr.mk.injEq] at hA'
 obtain⟨rfl,rfl,_⟩:=hA'
 exact h1

theorem q_appz {ps:List Nat} {q kk:Nat} {es':List (List T)} [hm:TyMake P t e zs by_] (ho:o.op = .call { callee := .builtin .append,args:=#[y,z],argTypes:=#[t,t] }) (hg:o.guard=none) (hy:st.ev y = .o (.c (.sb q 0 kk))) (hz:st.ev z = .o (.c (.rd ps (.sl kk es')))) (hkz:kk=zs.length) (hz0:zs.isEmpty=false)
  (hpl:plainT es') (hkk:∀ e∈es',e.length=kk) (hpos:0<es'.length) (hb:es'.length*by_≤140737488355328) (h63:es'.length≤9223372036854775807):Qt P ops o st (.o (.c (.ref m))) [.row kk es'] m :=
 .new hg fun a w H F hr hn=>by
  have hzn:zs ≠ []:=by intro e; rw[e] at hz0; cases hz0
  subst hkz
  obtain⟨g,tt,vs,b1,b2,b3,b4⟩:=hr.v1 hy
  obtain⟨w1,hw1⟩:∃ w1,w1=w:=⟨_,rfl⟩
  have hs:srcOf st.objs (.rd ps (.sl zs.length es'))=some es':=rfl
  obtain⟨v',w',fp'',hr1,h3,h4,h5,h6⟩:=Yb (P:=P) (o:=o) (t:=t) (kk:=zs.length) (es := []) hr (OW.nil _) List.nodup_nil rfl hzn (hr.v1 hz) hs hpl hkk (by simpa using hb) (by simpa using h63)
  have hbel:Below w.heap.size w w':=⟨h6.os,h6.tape,h6.output,h6.size,fun b hb=>h6.block b hb Aqd⟩
  refine⟨v',w',.ow (.sl zs.length es') v' fp'',?_,hbel,h3,⟨h4,trivial⟩,fun b hb=>(h5 b hb).resolve_left Aqd,fun H' hgr hq=>⟨⟨_,_,hq⟩,_,_,hq⟩⟩
  refine Yq ho ?_
  have h7:=src_any (P:=P) (t:=t) (e:=e) (by_:=by_) (kk:=zs.length) hr rfl hzn (hr.v1 hz) hs hpl hkk
  rw[b4,run_append_z (P:=P) (some ⟨g,0,none⟩) h7 hpos hb h63]
  exact hr1
end
end
end Go.Proofs.YtfklmiijhcajdaaGreat
