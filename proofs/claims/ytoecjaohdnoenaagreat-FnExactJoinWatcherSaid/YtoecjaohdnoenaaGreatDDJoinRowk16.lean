/-
  Rules, data and contracts of functions: part 17 of the proof.
  Conditions: those that each theorem names.
-/
import Derived.Test.YtoecjaohdnoenaaGreatDDJoinRowk15
set_option linter.unusedVariables false
set_option linter.unusedSimpArgs false
set_option maxRecDepth 8000
set_option maxHeartbeats 8000000
namespace Go.Proofs.YtoecjaohdnoenaaGreat
section
open Go.RowKit

structure TTrack where
 Inputs:(List Int)
 deriving DecidableEq
instance:Enc TTrack:=⟨1,by omega,fun x => [sl x.Inputs],fun _=>rfl,fun x=>Enc.gd x.Inputs,fun x=>Enc.wt x.Inputs⟩
theorem TTrack.same {x y:TTrack} (h0:x.Inputs=y.Inputs):x=y:=by cases x; cases y; simp_all
structure TSave where
 Tick:Int
 Delta:ByteArray
 deriving DecidableEq
instance:Enc TSave:=⟨2,by omega,fun x => [.v (.int .i64 x.Tick),.v (.string x.Delta)],fun _=>rfl,fun x=>Enc.gd x.Tick∧Enc.gd x.Delta,fun x=>Enc.wt x.Delta⟩
theorem TSave.same {x y:TSave} (h0:x.Tick=y.Tick) (h1:x.Delta=y.Delta):x=y:=by cases x; cases y; simp_all
structure TFault where
 Tick:Int
 Player:Int
 Add:Int
 deriving DecidableEq
instance:Enc TFault:=⟨3,by omega,fun x => [.v (.int .i64 x.Tick),.v (.int .i64 x.Player),.v (.int .i64 x.Add)],fun _=>rfl,fun x=>Enc.gd x.Tick∧Enc.gd x.Player∧Enc.gd x.Add,fun x=>0⟩
theorem TFault.same {x y:TFault} (h0:x.Tick=y.Tick) (h1:x.Player=y.Player) (h2:x.Add=y.Add):x=y:=by cases x; cases y; simp_all
structure TPacket where
 From:Int
 Tick:Int
 First:Int
 Inputs:(List Int)
 Acks:(List Int)
 SumTick:Int
 Sum:Int
 Time:Int
 Echo:Int
 deriving DecidableEq
instance:Enc TPacket:=⟨9,by omega,fun x => [.v (.int .i64 x.From),.v (.int .i64 x.Tick),.v (.int .i64 x.First),sl x.Inputs,sl x.Acks,.v (.int .i64 x.SumTick),.v (.int .i64 x.Sum),.v (.int .i64 x.Time),.v (.int .i64 x.Echo)],fun _=>rfl,fun x=>Enc.gd x.From∧Enc.gd x.Tick∧Enc.gd x.First∧Enc.gd x.Inputs∧Enc.gd x.Acks∧Enc.gd x.SumTick∧Enc.gd x.Sum∧Enc.gd x.Time∧Enc.gd x.Echo,fun x=>Enc.wt x.Inputs+Enc.wt x.Acks⟩
theorem TPacket.same {x y:TPacket} (h0:x.From=y.From) (h1:x.Tick=y.Tick) (h2:x.First=y.First) (h3:x.Inputs=y.Inputs) (h4:x.Acks=y.Acks) (h5:x.SumTick=y.SumTick) (h6:x.Sum=y.Sum) (h7:x.Time=y.Time) (h8:x.Echo=y.Echo):x=y:=by cases x; cases y; simp_all
structure TPeer where
 Me:Int
 Delay:Int
 Ahead:Int
 Seed:Int
 Tracks:(List TTrack)
 Base:TWorld
 Now:TWorld
 Used:(List (List Int))
 Saves:(List TSave)
 Sums:(List Int)
 Fault:TFault
 Rolls:Int
 Again:Int
 deriving DecidableEq
instance:Enc TPeer:=⟨23,by omega,fun x => [.v (.int .i64 x.Me),.v (.int .i64 x.Delay),.v (.int .i64 x.Ahead),.v (.int .i64 x.Seed),sl x.Tracks,sl x.Base.Level.Rows,.v (.int .i64 x.Base.Tick),.v (.int .i64 x.Base.Seed),sl x.Base.Scores,sl x.Base.Bodies,sl x.Now.Level.Rows,.v (.int .i64 x.Now.Tick),.v (.int .i64 x.Now.Seed),sl x.Now.Scores,sl x.Now.Bodies,sl x.Used,sl x.Saves,sl x.Sums,.v (.int .i64 x.Fault.Tick),.v (.int .i64 x.Fault.Player),.v (.int .i64 x.Fault.Add),.v (.int .i64 x.Rolls),.v (.int .i64 x.Again)],fun _=>rfl,fun x=>Enc.gd x.Me∧Enc.gd x.Delay∧Enc.gd x.Ahead∧Enc.gd x.Seed∧Enc.gd x.Tracks∧Enc.gd x.Base∧Enc.gd x.Now∧Enc.gd x.Used∧Enc.gd x.Saves∧Enc.gd x.Sums∧Enc.gd x.Fault∧Enc.gd x.Rolls∧Enc.gd x.Again,fun x=>Enc.wt x.Tracks+Enc.wt x.Base+Enc.wt x.Now+Enc.wt x.Used+Enc.wt x.Saves+Enc.wt x.Sums+Enc.wt x.Fault⟩
theorem TPeer.same {x y:TPeer} (h0:x.Me=y.Me) (h1:x.Delay=y.Delay) (h2:x.Ahead=y.Ahead) (h3:x.Seed=y.Seed) (h4:x.Tracks=y.Tracks) (h5:x.Base=y.Base) (h6:x.Now=y.Now) (h7:x.Used=y.Used) (h8:x.Saves=y.Saves) (h9:x.Sums=y.Sums) (h10:x.Fault=y.Fault) (h11:x.Rolls=y.Rolls) (h12:x.Again=y.Again):x=y:=by cases x; cases y; simp_all

theorem sz_Track (x:TTrack) (left:Int) (hg:Enc.gd x) (h0:0≤left) (h1:left≤1048576):Con Tryz.prog 178 [] [ag x,ai left] [] (I (szr (Enc.wt x) left)):=by
 have g_Inputs:Enc.gd x.Inputs:=hg
 have hw:Enc.wt x=Enc.wt x.Inputs:=rfl
 have hm1:decide ((-1:Int)<0)=true:=rfl
 have hc_Inputs:=sz_IntS x.Inputs (left) g_Inputs (by omega) (by omega)
 by_cases n_Inputs:left<Enc.wt x.Inputs
 ·rw[Kl n_Inputs] at hc_Inputs
  refine Con.of Tryz.func178 J Tryz.ntmps178 J (fun E => ?_)
  refine Wz [47,71] ?_;refine zx (Qj J J (hc_Inputs) J) J ?_;refine Wz [80,23] ?_
  exact Xk J J (Xw [] (by decide) J J (Xn (by rw[Kl (by omega)])))
 rw[Km (by omega)] at hc_Inputs
 have hb_Inputs:decide (left-Enc.wt x.Inputs<0)=false:=Gqa (by omega)
 refine Con.of Tryz.func178 J Tryz.ntmps178 J (fun E => ?_)
 refine Wz [47,71] ?_;refine zx (Qj J J (hc_Inputs) J) J ?_;refine Wz [101,166] ?_
 exact Xk J J (Xw [] (by decide) J J (Xn (by rw[Km (by omega)]; omega)))
theorem to_Track (x:TTrack) (hg:Enc.wt x≤1048576):Con Tryz.prog 189 [] [ag x] (ownO (Enc.e x)) (.o (.ag (ownV 0 (Enc.e x)))):=by
 have hw:Enc.wt x=Enc.wt x.Inputs:=rfl
 refine Con.of Tryz.func189 J Tryz.ntmps189 J (fun E => ?_)
 refine Wz [85,4,1,40,4,41] ?_;refine M1 (Zm J J (to_IntS x.Inputs (by omega)) J J J) J J ?_;refine Wz [86,45,30,99] ?_
 exact Xi J J J J (Xw [3] (by decide) J J J)
theorem eq_Track (x y:TTrack) (hg:Enc.gd x):Con Tryz.prog 202 [] [ag x,ag y] [] (B (decide (x=y))):=by
 have g_Inputs:Enc.gd x.Inputs:=hg
 by_cases e_Inputs:¬x.Inputs=y.Inputs
 ·have hc:=eq_IntS x.Inputs y.Inputs g_Inputs
  rw[Gqa e_Inputs] at hc
  refine Con.of Tryz.func202 J Tryz.ntmps202 J (fun E => ?_)
  refine Wz [34] ?_;refine zx (Qj J J (hc) J) J ?_;refine Wz [3,23] ?_
  exact Xk J J (Xw [] (by decide) J J (Xg (Gqa fun e=>e_Inputs (by rw[e])).symm))
 have e_Inputs:=Classical.not_not.1 e_Inputs
 have hc_Inputs:=eq_IntS x.Inputs y.Inputs g_Inputs
 rw[Gqb e_Inputs] at hc_Inputs
 refine Con.of Tryz.func202 J Tryz.ntmps202 J (fun E => ?_)
 refine Wz [34] ?_;refine zx (Qj J J (hc_Inputs) J) J ?_;refine Wz [3,54,61] ?_
 exact Xk J J (Xw [] (by decide) J J (Xg (Gqb (TTrack.same e_Inputs)).symm))
theorem sz_Save (x:TSave) (left:Int) (hg:Enc.gd x) (h0:0≤left) (h1:left≤1048576):Con Tryz.prog 180 [] [ag x,ai left] [] (I (szr (Enc.wt x) left)):=by
 obtain⟨g_Tick,g_Delta⟩:=hg
 have hw:Enc.wt x=Enc.wt x.Delta:=rfl
 have hm1:decide ((-1:Int)<0)=true:=rfl
 have hgd_Delta:x.Delta.size≤9223372036854775807:=g_Delta
 have hs_Delta:Enc.wt x.Delta=x.Delta.size:=rfl
 by_cases n_Delta:left-(x.Delta.size:Int)<0
 ·have hb:decide (left-(x.Delta.size:Int)<0)=true:=Gqb n_Delta
  refine Con.of Tryz.func180 J Tryz.ntmps180 J (fun E => ?_)
  refine Wz [124,19,18,126,74,80,23] ?_
  exact Xk J J (Xw [] (by decide) J J (Xn (by rw[Kl (by omega)])))
 have hb_Delta:decide (left-(x.Delta.size:Int)<0)=false:=Gqa n_Delta
 refine Con.of Tryz.func180 J Tryz.ntmps180 J (fun E => ?_)
 refine Wz [124,19,18,126,74,101,166] ?_
 exact Xk J J (Xw [] (by decide) J J (Xn (by rw[Km (by omega)]; omega)))
theorem to_Save (x:TSave) (hg:Enc.wt x≤1048576):Con Tryz.prog 191 [] [ag x] (ownO (Enc.e x)) (.o (.ag (ownV 0 (Enc.e x)))):=by
 have hw:Enc.wt x=Enc.wt x.Delta:=rfl
 refine Con.of Tryz.func191 J Tryz.ntmps191 J (fun E => ?_)
 refine Wz [85,4,1,40,4,41,42,86,45,30,99] ?_
 exact Xi J J J J (Xw [] (by decide) J J J)
theorem eq_Save (x y:TSave) (hg:Enc.gd x):Con Tryz.prog 203 [] [ag x,ag y] [] (B (decide (x=y))):=by
 obtain⟨g_Tick,g_Delta⟩:=hg
 by_cases e_Tick:¬x.Tick=y.Tick
 ·have hk:decide (x.Tick≠y.Tick)=true:=by simp[e_Tick]
  refine Con.of Tryz.func203 J Tryz.ntmps203 J (fun E => ?_)
  refine Wz [34,33] ?_
  exact Xk J J (Xw [] (by decide) J J (Xg (Gqa fun e=>e_Tick (by rw[e])).symm))
 have e_Tick:=Classical.not_not.1 e_Tick
 have k_Tick:decide (x.Tick≠y.Tick)=false:=by simp[e_Tick]
 by_cases e_Delta:¬x.Delta=y.Delta
 ·have hk:decide (x.Delta≠y.Delta)=true:=by simp[e_Delta]
  refine Con.of Tryz.func203 J Tryz.ntmps203 J (fun E => ?_)
  refine Wz [34,107,220,23] ?_
  exact Xk J J (Xw [] (by decide) J J (Xg (Gqa fun e=>e_Delta (by rw[e])).symm))
 have e_Delta:=Classical.not_not.1 e_Delta
 have k_Delta:decide (x.Delta≠y.Delta)=false:=by simp[e_Delta]
 refine Con.of Tryz.func203 J Tryz.ntmps203 J (fun E => ?_)
 refine Wz [34,107,220,54,61] ?_
 exact Xk J J (Xw [] (by decide) J J (Xg (Gqb (TSave.same e_Tick e_Delta)).symm))
theorem to_Fault (x:TFault) (hg:Enc.wt x≤1048576):Con Tryz.prog 46 [] [ag x] (ownO (Enc.e x)) (.o (.ag (ownV 0 (Enc.e x)))):=by
 refine Con.of Tryz.func46 J Tryz.ntmps46 J (fun E => ?_)
 refine Wz [85,4,1,40,4,41,42,42,86,45,30,99] ?_
 exact Xi J J J J (Xw [] (by decide) J J J)
theorem eq_Fault (x y:TFault) (hg:Enc.gd x):Con Tryz.prog 77 [] [ag x,ag y] [] (B (decide (x=y))):=by
 obtain⟨g_Tick,g_Player,g_Add⟩:=hg
 by_cases e_Tick:¬x.Tick=y.Tick
 ·have hk:decide (x.Tick≠y.Tick)=true:=by simp[e_Tick]
  refine Con.of Tryz.func77 J Tryz.ntmps77 J (fun E => ?_)
  refine Wz [34,33] ?_
  exact Xk J J (Xw [] (by decide) J J (Xg (Gqa fun e=>e_Tick (by rw[e])).symm))
 have e_Tick:=Classical.not_not.1 e_Tick
 have k_Tick:decide (x.Tick≠y.Tick)=false:=by simp[e_Tick]
 by_cases e_Player:¬x.Player=y.Player
 ·have hk:decide (x.Player≠y.Player)=true:=by simp[e_Player]
  refine Con.of Tryz.func77 J Tryz.ntmps77 J (fun E => ?_)
  refine Wz [34,107,33] ?_
  exact Xk J J (Xw [] (by decide) J J (Xg (Gqa fun e=>e_Player (by rw[e])).symm))
 have e_Player:=Classical.not_not.1 e_Player
 have k_Player:decide (x.Player≠y.Player)=false:=by simp[e_Player]
 by_cases e_Add:¬x.Add=y.Add
 ·have hk:decide (x.Add≠y.Add)=true:=by simp[e_Add]
  refine Con.of Tryz.func77 J Tryz.ntmps77 J (fun E => ?_)
  refine Wz [34,114,33] ?_
  exact Xk J J (Xw [] (by decide) J J (Xg (Gqa fun e=>e_Add (by rw[e])).symm))
 have e_Add:=Classical.not_not.1 e_Add
 have k_Add:decide (x.Add≠y.Add)=false:=by simp[e_Add]
 refine Con.of Tryz.func77 J Tryz.ntmps77 J (fun E => ?_)
 refine Wz [34,114,83,54,61] ?_
 exact Xk J J (Xw [] (by decide) J J (Xg (Gqb (TFault.same e_Tick e_Player e_Add)).symm))
theorem sz_TrackS (xs:List TTrack) (left:Int) (hg:Enc.gd xs) (h0:0≤left) (h1:left≤1048576):Con Tryz.prog 96 [] [al xs,ai left] [] (I (szr (Enc.wt xs) left)):=by
 have hlen:=Yf xs
 have hx:=hg.1
 have hw:Enc.wt xs=xs.length+wts xs:=rfl
 refine Con.of Tryz.func96 J Tryz.ntmps96 J (fun E => ?_)
 refine Wz [1,5,7,14,74,46,38] ?_
 refine Q9 J (fun h => ?_) (fun h => ?_)
 ·refine Wz [35] ?_
  have h2:=Gqc h
  exact Xk J J (Xw [] (by decide) J J (Xn (by rw[Kl (by omega)])))
 have h2:¬(left-((els xs).length:Int)<0):=Gqe h
 refine Wz [48,44] ?_
 refine Xf (fun m st=>∃ k:Nat,k+m=xs.length∧(((xs.length:Int)+wts (xs.take k)≤left))∧st=(⟨_,[(0,L xs),(1,I (left-(xs.length+wts (xs.take k)))),(5,I k)],[]⟩:St)) (xs.length) ⟨(fun k:Nat=>(⟨_,[(0,L xs),(1,I (left-(xs.length+wts (xs.take k)))),(5,I k)],[]⟩:St)) 0,⟨0,by omega,by simp[wts]; omega,J⟩,Xz [] (by decide) J (by kernel_rfl) (.c J (.cons (Xn (by simp[els,wts])) (.c J (.nil))))⟩ ?_
 rintro m_A _ ⟨k,hk_A,hp_A,rfl⟩
 refine Wz [57] ?_
 refine Q9 J (fun h => ?_) (fun h => ?_)
 ·have h3:k<xs.length:=by have:=Gqc h; omega
  have hat:=Yc h3
  have hstep:=Kv xs k h3
  have hle:=Kw xs (k+1)
  have hc:=sz_Track xs[k] (left-((xs.length:Int)+wts (xs.take k))) (hg.2 _ (Gqd h3)) (by omega) (by omega)
  by_cases h4:left-((xs.length:Int)+wts (xs.take k))<Enc.wt xs[k]
  ·rw[Kl h4] at hc
   have hb:decide ((-1:Int)<0)=true:=rfl
   refine Wz [6,7,37,0] ?_;refine zx (Qj J J (hc) J) J ?_;refine Wz [19,170,51] ?_
   exact Xk J J (Xw [] (by decide) J J (Xn (by rw[Kl (by omega)])))
  ·rw[Km (by omega)] at hc
   have hb:decide (left-((xs.length:Int)+wts (xs.take k))-Enc.wt xs[k]<0)=false:=Gqa (by omega)
   refine Wz [6,7,37,0] ?_;refine zx (Qj J J (hc) J) J ?_;refine Wz [19,32,58] ?_
   exact⟨xs.length-(k+1),by omega,(fun k:Nat=>(⟨_,[(0,L xs),(1,I (left-(xs.length+wts (xs.take k)))),(5,I k)],[]⟩:St)) (k+1),⟨k+1,by omega,by omega,J⟩,Xz [] (by decide) J (by kernel_rfl) (.c J (.cons (Xn (by rw[hstep]; omega)) (.c J (.nil))))⟩
 ·have h3:¬((k:Int)<(els xs).length):=Gqe h
  have hk:wts (xs.take k)=wts xs:=by rw[Gqh (by omega)]
  refine Wz [27] ?_
  exact Xk J J (Xw [] (by decide) J J (Xn (by rw[Km (by omega)]; omega)))
theorem sz_SaveS (xs:List TSave) (left:Int) (hg:Enc.gd xs) (h0:0≤left) (h1:left≤1048576):Con Tryz.prog 98 [] [al xs,ai left] [] (I (szr (Enc.wt xs) left)):=by
 have hlen:=Yf xs
 have hx:=hg.1
 have hw:Enc.wt xs=xs.length+wts xs:=rfl
 refine Con.of Tryz.func98 J Tryz.ntmps98 J (fun E => ?_)
 refine Wz [1,5,7,14,74,46,38] ?_
 refine Q9 J (fun h => ?_) (fun h => ?_)
 ·refine Wz [35] ?_
  have h2:=Gqc h
  exact Xk J J (Xw [] (by decide) J J (Xn (by rw[Kl (by omega)])))
 have h2:¬(left-((els xs).length:Int)<0):=Gqe h
 refine Wz [48,44] ?_
 refine Xf (fun m st=>∃ k:Nat,k+m=xs.length∧(((xs.length:Int)+wts (xs.take k)≤left))∧st=(⟨_,[(0,L xs),(1,I (left-(xs.length+wts (xs.take k)))),(5,I k)],[]⟩:St)) (xs.length) ⟨(fun k:Nat=>(⟨_,[(0,L xs),(1,I (left-(xs.length+wts (xs.take k)))),(5,I k)],[]⟩:St)) 0,⟨0,by omega,by simp[wts]; omega,J⟩,Xz [] (by decide) J (by kernel_rfl) (.c J (.cons (Xn (by simp[els,wts])) (.c J (.nil))))⟩ ?_
 rintro m_A _ ⟨k,hk_A,hp_A,rfl⟩
 refine Wz [57] ?_
 refine Q9 J (fun h => ?_) (fun h => ?_)
 ·have h3:k<xs.length:=by have:=Gqc h; omega
  have hat:=Yc h3
  have hstep:=Kv xs k h3
  have hle:=Kw xs (k+1)
  have hc:=sz_Save xs[k] (left-((xs.length:Int)+wts (xs.take k))) (hg.2 _ (Gqd h3)) (by omega) (by omega)
  by_cases h4:left-((xs.length:Int)+wts (xs.take k))<Enc.wt xs[k]
  ·rw[Kl h4] at hc
   have hb:decide ((-1:Int)<0)=true:=rfl
   refine Wz [6,7,37,0] ?_;refine zx (Qj J J (hc) J) J ?_;refine Wz [19,170,51] ?_
   exact Xk J J (Xw [] (by decide) J J (Xn (by rw[Kl (by omega)])))
  ·rw[Km (by omega)] at hc
   have hb:decide (left-((xs.length:Int)+wts (xs.take k))-Enc.wt xs[k]<0)=false:=Gqa (by omega)
   refine Wz [6,7,37,0] ?_;refine zx (Qj J J (hc) J) J ?_;refine Wz [19,32,58] ?_
   exact⟨xs.length-(k+1),by omega,(fun k:Nat=>(⟨_,[(0,L xs),(1,I (left-(xs.length+wts (xs.take k)))),(5,I k)],[]⟩:St)) (k+1),⟨k+1,by omega,by omega,J⟩,Xz [] (by decide) J (by kernel_rfl) (.c J (.cons (Xn (by rw[hstep]; omega)) (.c J (.nil))))⟩
 ·have h3:¬((k:Int)<(els xs).length):=Gqe h
  have hk:wts (xs.take k)=wts xs:=by rw[Gqh (by omega)]
  refine Wz [27] ?_
  exact Xk J J (Xw [] (by decide) J J (Xn (by rw[Km (by omega)]; omega)))
def zSave:List T := [.v (.int .i64 0),.v (.string ⟨#[]⟩)]
def zTrack:List T := [.sl 1 []]
theorem to_TrackS (xs:List TTrack) (hg:Enc.wt xs≤1048576):Con Tryz.prog 103 [] [al xs] [.row 1 (els xs)] (.o (.c (.ref 0))):=by
 have hlen:=Yf xs
 have hw:Enc.wt xs=xs.length+wts xs:=rfl
 refine Con.of Tryz.func103 J Tryz.ntmps103 J (fun E => ?_)
 refine Wz [1,19,14,232,130] ?_;refine Xf (fun m st=>∃ k:Nat,k+m=xs.length∧(True)∧st=(⟨_,[(0,L xs),(3,.o (.c (.ref 0))),(4,I k)],[.row 1 (part xs zTrack k)]⟩:St)) (xs.length) ⟨(fun k:Nat=>(⟨_,[(0,L xs),(3,.o (.c (.ref 0))),(4,I k)],[.row 1 (part xs zTrack k)]⟩:St)) 0,⟨0,by omega,trivial,J⟩,Xz [0] (by decide) J (Kf (Zd xs _)) (.c J (.c J (.c J (.nil))))⟩ ?_
 rintro m_A _ ⟨k,hk_A,hp_A,rfl⟩
 refine Wz [57] ?_
 refine Q9 J (fun h => ?_) (fun h => ?_)
 ·have h3:k<xs.length:=by have:=Gqc h; omega
  have hat:=Yc h3
  have hz:=Za xs zTrack h3
  have hpl:(k:Int)<(part xs zTrack k).length:=by rw[Zb xs _ (by omega)]; omega
  have hwt:Enc.wt xs[k]≤wts xs:=Ku xs _ (Gqd h3)
  have hc:=to_Track xs[k] (by omega)
  refine Wz [6,78,131,37] ?_;refine M1 (Zm J J (hc) J J J) J J ?_;refine Wz [165,193,93] ?_
  exact⟨xs.length-(k+1),by omega,(fun k:Nat=>(⟨_,[(0,L xs),(3,.o (.c (.ref 0))),(4,I k)],[.row 1 (part xs zTrack k)]⟩:St)) (k+1),⟨k+1,by omega,trivial,J⟩,Xz [0] (by decide) J (Kf (Zc xs zTrack h3 _ (by rfl) (by rfl)).symm) (.c J (.c J (.c J (.nil))))⟩
 ·have h3:¬((k:Int)<(els xs).length):=Gqe h
  refine Wz [27] ?_
  exact Xk J J (Xw [0] (by decide) J (Kf (Y9 xs _ (by omega)).symm) J)
theorem to_SaveS (xs:List TSave) (hg:Enc.wt xs≤1048576):Con Tryz.prog 105 [] [al xs] [.row 2 (els xs)] (.o (.c (.ref 0))):=by
 have hlen:=Yf xs
 have hw:Enc.wt xs=xs.length+wts xs:=rfl
 refine Con.of Tryz.func105 J Tryz.ntmps105 J (fun E => ?_)
 refine Wz [1,19,14,219,130] ?_;refine Xf (fun m st=>∃ k:Nat,k+m=xs.length∧(True)∧st=(⟨_,[(0,L xs),(3,.o (.c (.ref 0))),(4,I k)],[.row 2 (part xs zSave k)]⟩:St)) (xs.length) ⟨(fun k:Nat=>(⟨_,[(0,L xs),(3,.o (.c (.ref 0))),(4,I k)],[.row 2 (part xs zSave k)]⟩:St)) 0,⟨0,by omega,trivial,J⟩,Xz [0] (by decide) J (Kf (Zd xs _)) (.c J (.c J (.c J (.nil))))⟩ ?_
 rintro m_A _ ⟨k,hk_A,hp_A,rfl⟩
 refine Wz [57] ?_
 refine Q9 J (fun h => ?_) (fun h => ?_)
 ·have h3:k<xs.length:=by have:=Gqc h; omega
  have hat:=Yc h3
  have hz:=Za xs zSave h3
  have hpl:(k:Int)<(part xs zSave k).length:=by rw[Zb xs _ (by omega)]; omega
  have hwt:Enc.wt xs[k]≤wts xs:=Ku xs _ (Gqd h3)
  have hc:=to_Save xs[k] (by omega)
  refine Wz [6,78,131,37] ?_;refine M1 (Zm J J (hc) J J J) J J ?_;refine Wz [165,193,93] ?_
  exact⟨xs.length-(k+1),by omega,(fun k:Nat=>(⟨_,[(0,L xs),(3,.o (.c (.ref 0))),(4,I k)],[.row 2 (part xs zSave k)]⟩:St)) (k+1),⟨k+1,by omega,trivial,J⟩,Xz [0] (by decide) J (Kf (Zc xs zSave h3 _ (by rfl) (by rfl)).symm) (.c J (.c J (.c J (.nil))))⟩
 ·have h3:¬((k:Int)<(els xs).length):=Gqe h
  refine Wz [27] ?_
  exact Xk J J (Xw [0] (by decide) J (Kf (Y9 xs _ (by omega)).symm) J)
theorem eq_TrackS (xs ys:List TTrack) (hn:Enc.gd xs):Con Tryz.prog 110 [] [al xs,al ys] [] (B (decide (xs=ys))):=by
 have hn1:=hn.1
 have hlx:=Yf xs
 have hly:=Yf ys
 by_cases hl:xs.length=ys.length
 ·have hb:decide (((els xs).length:Int)≠((els ys).length:Int))=false:=by rw[hlx,hly,hl]; simp
  refine Con.of Tryz.func110 J Tryz.ntmps110 J (fun E => ?_)
  refine Wz [100,14,83,39,44] ?_;refine Xf (fun m st=>∃ k:Nat,k+m=xs.length∧(xs.take k=ys.take k)∧st=(⟨_,[(0,L xs),(1,L ys),(5,I k)],[]⟩:St)) (xs.length) ⟨_,⟨0,by omega,by simp,J⟩,Xy [] (by kernel_rfl)⟩ ?_
  rintro m_A _ ⟨k,hk_A,hp_A,rfl⟩
  refine Wz [57] ?_
  refine Q9 J (fun h => ?_) (fun h => ?_)
  ·have h3:k<xs.length:=by have:=Gqc h; omega
   have h4:k<ys.length:=by omega
   have hat:=Yc h3
   have hat2:=Yc h4
   have hc:=eq_Track xs[k] ys[k] (hn.2 _ (Gqd h3))
   by_cases he:xs[k]=ys[k]
   ·rw[Gqb he] at hc
    refine Wz [84,132,90,90] ?_;refine DR.s (Qj J J (hc) J) J J ?_;refine Wz [65,12,79,58] ?_
    exact⟨xs.length-(k+1),by omega,_,⟨k+1,by omega,Ym h3 h4 hp_A he,J⟩,Xy [] (by kernel_rfl)⟩
   ·rw[Gqa he] at hc
    refine Wz [84,132,90,90] ?_;refine DR.s (Qj J J (hc) J) J J ?_;refine Wz [65,12,17,51] ?_
    exact Xk J J (Xw [] (by decide) J J (Xg (eq_ne h3 h4 he).symm))
  ·have h3:¬((k:Int)<(els xs).length):=Gqe h
   refine Wz [16,61] ?_
   exact Xk J J (Xw [] (by decide) J J (Xg (Yk (by omega) hl hp_A).symm))
 ·have hb:decide (((els xs).length:Int)≠((els ys).length:Int))=true:=by rw[hlx,hly]; simp; omega
  refine Con.of Tryz.func110 J Tryz.ntmps110 J (fun E => ?_)
  refine Wz [100,14,33] ?_
  exact Xk J J (Xw [] (by decide) J J (Xg (Yl hl).symm))
theorem eq_SaveS (xs ys:List TSave) (hn:Enc.gd xs):Con Tryz.prog 111 [] [al xs,al ys] [] (B (decide (xs=ys))):=by
 have hn1:=hn.1
 have hlx:=Yf xs
 have hly:=Yf ys
 by_cases hl:xs.length=ys.length
 ·have hb:decide (((els xs).length:Int)≠((els ys).length:Int))=false:=by rw[hlx,hly,hl]; simp
  refine Con.of Tryz.func111 J Tryz.ntmps111 J (fun E => ?_)
  refine Wz [100,14,83,39,44] ?_;refine Xf (fun m st=>∃ k:Nat,k+m=xs.length∧(xs.take k=ys.take k)∧st=(⟨_,[(0,L xs),(1,L ys),(5,I k)],[]⟩:St)) (xs.length) ⟨_,⟨0,by omega,by simp,J⟩,Xy [] (by kernel_rfl)⟩ ?_
  rintro m_A _ ⟨k,hk_A,hp_A,rfl⟩
  refine Wz [57] ?_
  refine Q9 J (fun h => ?_) (fun h => ?_)
  ·have h3:k<xs.length:=by have:=Gqc h; omega
   have h4:k<ys.length:=by omega
   have hat:=Yc h3
   have hat2:=Yc h4
   have hc:=eq_Save xs[k] ys[k] (hn.2 _ (Gqd h3))
   by_cases he:xs[k]=ys[k]
   ·rw[Gqb he] at hc
    refine Wz [84,132,90,90] ?_;refine DR.s (Qj J J (hc) J) J J ?_;refine Wz [65,12,79,58] ?_
    exact⟨xs.length-(k+1),by omega,_,⟨k+1,by omega,Ym h3 h4 hp_A he,J⟩,Xy [] (by kernel_rfl)⟩
   ·rw[Gqa he] at hc
    refine Wz [84,132,90,90] ?_;refine DR.s (Qj J J (hc) J) J J ?_;refine Wz [65,12,17,51] ?_
    exact Xk J J (Xw [] (by decide) J J (Xg (eq_ne h3 h4 he).symm))
  ·have h3:¬((k:Int)<(els xs).length):=Gqe h
   refine Wz [16,61] ?_
   exact Xk J J (Xw [] (by decide) J J (Xg (Yk (by omega) hl hp_A).symm))
 ·have hb:decide (((els xs).length:Int)≠((els ys).length:Int))=true:=by rw[hlx,hly]; simp; omega
  refine Con.of Tryz.func111 J Tryz.ntmps111 J (fun E => ?_)
  refine Wz [100,14,33] ?_
  exact Xk J J (Xw [] (by decide) J J (Xg (Yl hl).symm))
end
section
open Go.RowKit

theorem to_Peer (x:TPeer) (hg:Enc.wt x≤1048576):Con Tryz.prog 32 [] [ag x] [.row 1 (els x.Tracks),.row 1 (els x.Base.Level.Rows),.row 1 (els x.Base.Scores),.row 9 (els x.Base.Bodies),.row 1 (els x.Now.Level.Rows),.row 1 (els x.Now.Scores),.row 9 (els x.Now.Bodies),.row 1 (els x.Used),.row 2 (els x.Saves),.row 1 (els x.Sums)] (.o (.ag [.rd [] (.v (.int .i64 x.Me)),.rd [] (.v (.int .i64 x.Delay)),.rd [] (.v (.int .i64 x.Ahead)),.rd [] (.v (.int .i64 x.Seed)),.ref 0,.ref 1,.rd [] (.v (.int .i64 x.Base.Tick)),.rd [] (.v (.int .i64 x.Base.Seed)),.ref 2,.ref 3,.ref 4,.rd [] (.v (.int .i64 x.Now.Tick)),.rd [] (.v (.int .i64 x.Now.Seed)),.ref 5,.ref 6,.ref 7,.ref 8,.ref 9,.rd [] (.v (.int .i64 x.Fault.Tick)),.rd [] (.v (.int .i64 x.Fault.Player)),.rd [] (.v (.int .i64 x.Fault.Add)),.rd [] (.v (.int .i64 x.Rolls)),.rd [] (.v (.int .i64 x.Again))])):=by
 have hw:Enc.wt x=Enc.wt x.Tracks+Enc.wt x.Base+Enc.wt x.Now+Enc.wt x.Used+Enc.wt x.Saves+Enc.wt x.Sums+Enc.wt x.Fault:=rfl
 refine Con.of Tryz.func32 J Tryz.ntmps32 J (fun E => ?_)
 refine Wz [85,4,1,40,4,41,42,42,42,42] ?_;refine AL.weak (st':=(⟨_,[(1,.o (.c (.ptr 0 0))),(2,.o (.c (.ptr 1 0))),(3,.o (.c (.ptr 2 0))),(17,L x.Tracks)],[.box ((Enc.e x).map (V1.rd [])),.box [.rd [] (.v (.int .i64 0)),.rd [] (.v (.int .i64 0)),.rd [] (.v (.int .i64 0)),.rd [] (.v (.int .i64 0)),.rd [] (.v (.slice none 0 0)),.rd [] (.v (.slice none 0 0)),.rd [] (.v (.int .i64 0)),.rd [] (.v (.int .i64 0)),.rd [] (.v (.slice none 0 0)),.rd [] (.v (.slice none 0 0)),.rd [] (.v (.slice none 0 0)),.rd [] (.v (.int .i64 0)),.rd [] (.v (.int .i64 0)),.rd [] (.v (.slice none 0 0)),.rd [] (.v (.slice none 0 0)),.rd [] (.v (.slice none 0 0)),.rd [] (.v (.slice none 0 0)),.rd [] (.v (.slice none 0 0)),.rd [] (.v (.int .i64 0)),.rd [] (.v (.int .i64 0)),.rd [] (.v (.int .i64 0)),.rd [] (.v (.int .i64 0)),.rd [] (.v (.int .i64 0))],.box [.rd [] (.v (.int .i64 x.Me)),.rd [] (.v (.int .i64 x.Delay)),.rd [] (.v (.int .i64 x.Ahead)),.rd [] (.v (.int .i64 x.Seed)),.rd [] (.v (.slice none 0 0)),.rd [] (.v (.slice none 0 0)),.rd [] (.v (.int .i64 0)),.rd [] (.v (.int .i64 0)),.rd [] (.v (.slice none 0 0)),.rd [] (.v (.slice none 0 0)),.rd [] (.v (.slice none 0 0)),.rd [] (.v (.int .i64 0)),.rd [] (.v (.int .i64 0)),.rd [] (.v (.slice none 0 0)),.rd [] (.v (.slice none 0 0)),.rd [] (.v (.slice none 0 0)),.rd [] (.v (.slice none 0 0)),.rd [] (.v (.slice none 0 0)),.rd [] (.v (.int .i64 0)),.rd [] (.v (.int .i64 0)),.rd [] (.v (.int .i64 0)),.rd [] (.v (.int .i64 0)),.rd [] (.v (.int .i64 0))]]⟩:St)) (Xy [0,1,2] (by kernel_rfl)) ?_;refine M1 (Zm J J (to_TrackS x.Tracks (by omega)) J J J) J J ?_;refine Wz [86,162] ?_;refine AL.weak (st':=(⟨_,[(1,.o (.c (.ptr 0 0))),(2,.o (.c (.ptr 1 0))),(3,.o (.c (.ptr 2 0))),(21,.o (.ag ((Enc.e x.Base).map (V1.rd []))))],[.box ((Enc.e x).map (V1.rd [])),.box [.rd [] (.v (.int .i64 0)),.rd [] (.v (.int .i64 0)),.rd [] (.v (.int .i64 0)),.rd [] (.v (.int .i64 0)),.rd [] (.v (.slice none 0 0)),.rd [] (.v (.slice none 0 0)),.rd [] (.v (.int .i64 0)),.rd [] (.v (.int .i64 0)),.rd [] (.v (.slice none 0 0)),.rd [] (.v (.slice none 0 0)),.rd [] (.v (.slice none 0 0)),.rd [] (.v (.int .i64 0)),.rd [] (.v (.int .i64 0)),.rd [] (.v (.slice none 0 0)),.rd [] (.v (.slice none 0 0)),.rd [] (.v (.slice none 0 0)),.rd [] (.v (.slice none 0 0)),.rd [] (.v (.slice none 0 0)),.rd [] (.v (.int .i64 0)),.rd [] (.v (.int .i64 0)),.rd [] (.v (.int .i64 0)),.rd [] (.v (.int .i64 0)),.rd [] (.v (.int .i64 0))],.box [.rd [] (.v (.int .i64 x.Me)),.rd [] (.v (.int .i64 x.Delay)),.rd [] (.v (.int .i64 x.Ahead)),.rd [] (.v (.int .i64 x.Seed)),.ref 3,.rd [] (.v (.slice none 0 0)),.rd [] (.v (.int .i64 0)),.rd [] (.v (.int .i64 0)),.rd [] (.v (.slice none 0 0)),.rd [] (.v (.slice none 0 0)),.rd [] (.v (.slice none 0 0)),.rd [] (.v (.int .i64 0)),.rd [] (.v (.int .i64 0)),.rd [] (.v (.slice none 0 0)),.rd [] (.v (.slice none 0 0)),.rd [] (.v (.slice none 0 0)),.rd [] (.v (.slice none 0 0)),.rd [] (.v (.slice none 0 0)),.rd [] (.v (.int .i64 0)),.rd [] (.v (.int .i64 0)),.rd [] (.v (.int .i64 0)),.rd [] (.v (.int .i64 0)),.rd [] (.v (.int .i64 0))],.row 1 (els x.Tracks)]⟩:St)) (Xy [0,1,2,3] (by kernel_rfl)) ?_;refine M1 (Zm J J (to_World x.Base (by omega)) J J J) J J ?_;refine Wz [81,30,162] ?_;refine AL.weak (st':=(⟨_,[(1,.o (.c (.ptr 0 0))),(2,.o (.c (.ptr 1 0))),(3,.o (.c (.ptr 2 0))),(25,.o (.ag ((Enc.e x.Now).map (V1.rd []))))],[.box ((Enc.e x).map (V1.rd [])),.box [.rd [] (.v (.int .i64 0)),.rd [] (.v (.int .i64 0)),.rd [] (.v (.int .i64 0)),.rd [] (.v (.int .i64 0)),.rd [] (.v (.slice none 0 0)),.rd [] (.v (.slice none 0 0)),.rd [] (.v (.int .i64 0)),.rd [] (.v (.int .i64 0)),.rd [] (.v (.slice none 0 0)),.rd [] (.v (.slice none 0 0)),.rd [] (.v (.slice none 0 0)),.rd [] (.v (.int .i64 0)),.rd [] (.v (.int .i64 0)),.rd [] (.v (.slice none 0 0)),.rd [] (.v (.slice none 0 0)),.rd [] (.v (.slice none 0 0)),.rd [] (.v (.slice none 0 0)),.rd [] (.v (.slice none 0 0)),.rd [] (.v (.int .i64 0)),.rd [] (.v (.int .i64 0)),.rd [] (.v (.int .i64 0)),.rd [] (.v (.int .i64 0)),.rd [] (.v (.int .i64 0))],.box [.rd [] (.v (.int .i64 x.Me)),.rd [] (.v (.int .i64 x.Delay)),.rd [] (.v (.int .i64 x.Ahead)),.rd [] (.v (.int .i64 x.Seed)),.ref 3,.ref 4,.rd [] (.v (.int .i64 x.Base.Tick)),.rd [] (.v (.int .i64 x.Base.Seed)),.ref 5,.ref 6,.rd [] (.v (.slice none 0 0)),.rd [] (.v (.int .i64 0)),.rd [] (.v (.int .i64 0)),.rd [] (.v (.slice none 0 0)),.rd [] (.v (.slice none 0 0)),.rd [] (.v (.slice none 0 0)),.rd [] (.v (.slice none 0 0)),.rd [] (.v (.slice none 0 0)),.rd [] (.v (.int .i64 0)),.rd [] (.v (.int .i64 0)),.rd [] (.v (.int .i64 0)),.rd [] (.v (.int .i64 0)),.rd [] (.v (.int .i64 0))],.row 1 (els x.Tracks),.row 1 (els x.Base.Level.Rows),.row 1 (els x.Base.Scores),.row 9 (els x.Base.Bodies)]⟩:St)) (Xy [0,1,2,3,4,5,6] (by kernel_rfl)) ?_;refine M1 (Zm J J (to_World x.Now (by omega)) J J J) J J ?_;refine Wz [81,30,41] ?_;refine AL.weak (st':=(⟨_,[(1,.o (.c (.ptr 0 0))),(2,.o (.c (.ptr 1 0))),(3,.o (.c (.ptr 2 0))),(29,L x.Used)],[.box ((Enc.e x).map (V1.rd [])),.box [.rd [] (.v (.int .i64 0)),.rd [] (.v (.int .i64 0)),.rd [] (.v (.int .i64 0)),.rd [] (.v (.int .i64 0)),.rd [] (.v (.slice none 0 0)),.rd [] (.v (.slice none 0 0)),.rd [] (.v (.int .i64 0)),.rd [] (.v (.int .i64 0)),.rd [] (.v (.slice none 0 0)),.rd [] (.v (.slice none 0 0)),.rd [] (.v (.slice none 0 0)),.rd [] (.v (.int .i64 0)),.rd [] (.v (.int .i64 0)),.rd [] (.v (.slice none 0 0)),.rd [] (.v (.slice none 0 0)),.rd [] (.v (.slice none 0 0)),.rd [] (.v (.slice none 0 0)),.rd [] (.v (.slice none 0 0)),.rd [] (.v (.int .i64 0)),.rd [] (.v (.int .i64 0)),.rd [] (.v (.int .i64 0)),.rd [] (.v (.int .i64 0)),.rd [] (.v (.int .i64 0))],.box [.rd [] (.v (.int .i64 x.Me)),.rd [] (.v (.int .i64 x.Delay)),.rd [] (.v (.int .i64 x.Ahead)),.rd [] (.v (.int .i64 x.Seed)),.ref 3,.ref 4,.rd [] (.v (.int .i64 x.Base.Tick)),.rd [] (.v (.int .i64 x.Base.Seed)),.ref 5,.ref 6,.ref 7,.rd [] (.v (.int .i64 x.Now.Tick)),.rd [] (.v (.int .i64 x.Now.Seed)),.ref 8,.ref 9,.rd [] (.v (.slice none 0 0)),.rd [] (.v (.slice none 0 0)),.rd [] (.v (.slice none 0 0)),.rd [] (.v (.int .i64 0)),.rd [] (.v (.int .i64 0)),.rd [] (.v (.int .i64 0)),.rd [] (.v (.int .i64 0)),.rd [] (.v (.int .i64 0))],.row 1 (els x.Tracks),.row 1 (els x.Base.Level.Rows),.row 1 (els x.Base.Scores),.row 9 (els x.Base.Bodies),.row 1 (els x.Now.Level.Rows),.row 1 (els x.Now.Scores),.row 9 (els x.Now.Bodies)]⟩:St)) (Xy [0,1,2,3,4,5,6,7,8,9] (by kernel_rfl)) ?_;refine M1 (Zm J J (to_IntSS x.Used (by omega)) J J J) J J ?_;refine Wz [42] ?_;refine AL.weak (st':=(⟨_,[(1,.o (.c (.ptr 0 0))),(2,.o (.c (.ptr 1 0))),(3,.o (.c (.ptr 2 0))),(33,L x.Saves)],[.box ((Enc.e x).map (V1.rd [])),.box [.rd [] (.v (.int .i64 0)),.rd [] (.v (.int .i64 0)),.rd [] (.v (.int .i64 0)),.rd [] (.v (.int .i64 0)),.rd [] (.v (.slice none 0 0)),.rd [] (.v (.slice none 0 0)),.rd [] (.v (.int .i64 0)),.rd [] (.v (.int .i64 0)),.rd [] (.v (.slice none 0 0)),.rd [] (.v (.slice none 0 0)),.rd [] (.v (.slice none 0 0)),.rd [] (.v (.int .i64 0)),.rd [] (.v (.int .i64 0)),.rd [] (.v (.slice none 0 0)),.rd [] (.v (.slice none 0 0)),.rd [] (.v (.slice none 0 0)),.rd [] (.v (.slice none 0 0)),.rd [] (.v (.slice none 0 0)),.rd [] (.v (.int .i64 0)),.rd [] (.v (.int .i64 0)),.rd [] (.v (.int .i64 0)),.rd [] (.v (.int .i64 0)),.rd [] (.v (.int .i64 0))],.box [.rd [] (.v (.int .i64 x.Me)),.rd [] (.v (.int .i64 x.Delay)),.rd [] (.v (.int .i64 x.Ahead)),.rd [] (.v (.int .i64 x.Seed)),.ref 3,.ref 4,.rd [] (.v (.int .i64 x.Base.Tick)),.rd [] (.v (.int .i64 x.Base.Seed)),.ref 5,.ref 6,.ref 7,.rd [] (.v (.int .i64 x.Now.Tick)),.rd [] (.v (.int .i64 x.Now.Seed)),.ref 8,.ref 9,.ref 10,.rd [] (.v (.slice none 0 0)),.rd [] (.v (.slice none 0 0)),.rd [] (.v (.int .i64 0)),.rd [] (.v (.int .i64 0)),.rd [] (.v (.int .i64 0)),.rd [] (.v (.int .i64 0)),.rd [] (.v (.int .i64 0))],.row 1 (els x.Tracks),.row 1 (els x.Base.Level.Rows),.row 1 (els x.Base.Scores),.row 9 (els x.Base.Bodies),.row 1 (els x.Now.Level.Rows),.row 1 (els x.Now.Scores),.row 9 (els x.Now.Bodies),.row 1 (els x.Used)]⟩:St)) (Xy [0,1,2,3,4,5,6,7,8,9,10] (by kernel_rfl)) ?_;refine M1 (Zm J J (to_SaveS x.Saves (by omega)) J J J) J J ?_;refine Wz [42] ?_;refine AL.weak (st':=(⟨_,[(1,.o (.c (.ptr 0 0))),(2,.o (.c (.ptr 1 0))),(3,.o (.c (.ptr 2 0))),(37,L x.Sums)],[.box ((Enc.e x).map (V1.rd [])),.box [.rd [] (.v (.int .i64 0)),.rd [] (.v (.int .i64 0)),.rd [] (.v (.int .i64 0)),.rd [] (.v (.int .i64 0)),.rd [] (.v (.slice none 0 0)),.rd [] (.v (.slice none 0 0)),.rd [] (.v (.int .i64 0)),.rd [] (.v (.int .i64 0)),.rd [] (.v (.slice none 0 0)),.rd [] (.v (.slice none 0 0)),.rd [] (.v (.slice none 0 0)),.rd [] (.v (.int .i64 0)),.rd [] (.v (.int .i64 0)),.rd [] (.v (.slice none 0 0)),.rd [] (.v (.slice none 0 0)),.rd [] (.v (.slice none 0 0)),.rd [] (.v (.slice none 0 0)),.rd [] (.v (.slice none 0 0)),.rd [] (.v (.int .i64 0)),.rd [] (.v (.int .i64 0)),.rd [] (.v (.int .i64 0)),.rd [] (.v (.int .i64 0)),.rd [] (.v (.int .i64 0))],.box [.rd [] (.v (.int .i64 x.Me)),.rd [] (.v (.int .i64 x.Delay)),.rd [] (.v (.int .i64 x.Ahead)),.rd [] (.v (.int .i64 x.Seed)),.ref 3,.ref 4,.rd [] (.v (.int .i64 x.Base.Tick)),.rd [] (.v (.int .i64 x.Base.Seed)),.ref 5,.ref 6,.ref 7,.rd [] (.v (.int .i64 x.Now.Tick)),.rd [] (.v (.int .i64 x.Now.Seed)),.ref 8,.ref 9,.ref 10,.ref 11,.rd [] (.v (.slice none 0 0)),.rd [] (.v (.int .i64 0)),.rd [] (.v (.int .i64 0)),.rd [] (.v (.int .i64 0)),.rd [] (.v (.int .i64 0)),.rd [] (.v (.int .i64 0))],.row 1 (els x.Tracks),.row 1 (els x.Base.Level.Rows),.row 1 (els x.Base.Scores),.row 9 (els x.Base.Bodies),.row 1 (els x.Now.Level.Rows),.row 1 (els x.Now.Scores),.row 9 (els x.Now.Bodies),.row 1 (els x.Used),.row 2 (els x.Saves)]⟩:St)) (Xy [0,1,2,3,4,5,6,7,8,9,10,11] (by kernel_rfl)) ?_;refine M1 (Zm J J (to_IntS x.Sums (by omega)) J J J) J J ?_;refine Wz [86,162] ?_;refine AL.weak (st':=(⟨_,[(1,.o (.c (.ptr 0 0))),(2,.o (.c (.ptr 1 0))),(3,.o (.c (.ptr 2 0))),(41,.o (.ag ((Enc.e x.Fault).map (V1.rd []))))],[.box ((Enc.e x).map (V1.rd [])),.box [.rd [] (.v (.int .i64 0)),.rd [] (.v (.int .i64 0)),.rd [] (.v (.int .i64 0)),.rd [] (.v (.int .i64 0)),.rd [] (.v (.slice none 0 0)),.rd [] (.v (.slice none 0 0)),.rd [] (.v (.int .i64 0)),.rd [] (.v (.int .i64 0)),.rd [] (.v (.slice none 0 0)),.rd [] (.v (.slice none 0 0)),.rd [] (.v (.slice none 0 0)),.rd [] (.v (.int .i64 0)),.rd [] (.v (.int .i64 0)),.rd [] (.v (.slice none 0 0)),.rd [] (.v (.slice none 0 0)),.rd [] (.v (.slice none 0 0)),.rd [] (.v (.slice none 0 0)),.rd [] (.v (.slice none 0 0)),.rd [] (.v (.int .i64 0)),.rd [] (.v (.int .i64 0)),.rd [] (.v (.int .i64 0)),.rd [] (.v (.int .i64 0)),.rd [] (.v (.int .i64 0))],.box [.rd [] (.v (.int .i64 x.Me)),.rd [] (.v (.int .i64 x.Delay)),.rd [] (.v (.int .i64 x.Ahead)),.rd [] (.v (.int .i64 x.Seed)),.ref 3,.ref 4,.rd [] (.v (.int .i64 x.Base.Tick)),.rd [] (.v (.int .i64 x.Base.Seed)),.ref 5,.ref 6,.ref 7,.rd [] (.v (.int .i64 x.Now.Tick)),.rd [] (.v (.int .i64 x.Now.Seed)),.ref 8,.ref 9,.ref 10,.ref 11,.ref 12,.rd [] (.v (.int .i64 0)),.rd [] (.v (.int .i64 0)),.rd [] (.v (.int .i64 0)),.rd [] (.v (.int .i64 0)),.rd [] (.v (.int .i64 0))],.row 1 (els x.Tracks),.row 1 (els x.Base.Level.Rows),.row 1 (els x.Base.Scores),.row 9 (els x.Base.Bodies),.row 1 (els x.Now.Level.Rows),.row 1 (els x.Now.Scores),.row 9 (els x.Now.Bodies),.row 1 (els x.Used),.row 2 (els x.Saves),.row 1 (els x.Sums)]⟩:St)) (Xy [0,1,2,3,4,5,6,7,8,9,10,11,12] (by kernel_rfl)) ?_;refine M1 (Zm J J (to_Fault x.Fault (by omega)) J J J) J J ?_;refine AL.weak (st':=(⟨_,[(1,.o (.c (.ptr 0 0))),(2,.o (.c (.ptr 1 0))),(3,.o (.c (.ptr 2 0))),(42,.o (.ag ((Enc.e x.Fault).map (V1.rd []))))],[.box ((Enc.e x).map (V1.rd [])),.box [.rd [] (.v (.int .i64 0)),.rd [] (.v (.int .i64 0)),.rd [] (.v (.int .i64 0)),.rd [] (.v (.int .i64 0)),.rd [] (.v (.slice none 0 0)),.rd [] (.v (.slice none 0 0)),.rd [] (.v (.int .i64 0)),.rd [] (.v (.int .i64 0)),.rd [] (.v (.slice none 0 0)),.rd [] (.v (.slice none 0 0)),.rd [] (.v (.slice none 0 0)),.rd [] (.v (.int .i64 0)),.rd [] (.v (.int .i64 0)),.rd [] (.v (.slice none 0 0)),.rd [] (.v (.slice none 0 0)),.rd [] (.v (.slice none 0 0)),.rd [] (.v (.slice none 0 0)),.rd [] (.v (.slice none 0 0)),.rd [] (.v (.int .i64 0)),.rd [] (.v (.int .i64 0)),.rd [] (.v (.int .i64 0)),.rd [] (.v (.int .i64 0)),.rd [] (.v (.int .i64 0))],.box [.rd [] (.v (.int .i64 x.Me)),.rd [] (.v (.int .i64 x.Delay)),.rd [] (.v (.int .i64 x.Ahead)),.rd [] (.v (.int .i64 x.Seed)),.ref 3,.ref 4,.rd [] (.v (.int .i64 x.Base.Tick)),.rd [] (.v (.int .i64 x.Base.Seed)),.ref 5,.ref 6,.ref 7,.rd [] (.v (.int .i64 x.Now.Tick)),.rd [] (.v (.int .i64 x.Now.Seed)),.ref 8,.ref 9,.ref 10,.ref 11,.ref 12,.rd [] (.v (.int .i64 0)),.rd [] (.v (.int .i64 0)),.rd [] (.v (.int .i64 0)),.rd [] (.v (.int .i64 0)),.rd [] (.v (.int .i64 0))],.row 1 (els x.Tracks),.row 1 (els x.Base.Level.Rows),.row 1 (els x.Base.Scores),.row 9 (els x.Base.Bodies),.row 1 (els x.Now.Level.Rows),.row 1 (els x.Now.Scores),.row 9 (els x.Now.Bodies),.row 1 (els x.Used),.row 2 (els x.Saves),.row 1 (els x.Sums)]⟩:St)) (Xy [0,1,2,3,4,5,6,7,8,9,10,11,12] (by kernel_rfl)) ?_;refine Wz [81,30,41,42,86,1] ?_;refine AL.weak (st':=(⟨_,[(2,.o (.c (.ptr 1 0))),(3,.o (.c (.ptr 2 0)))],[.box ((Enc.e x).map (V1.rd [])),.box [.rd [] (.v (.int .i64 0)),.rd [] (.v (.int .i64 0)),.rd [] (.v (.int .i64 0)),.rd [] (.v (.int .i64 0)),.rd [] (.v (.slice none 0 0)),.rd [] (.v (.slice none 0 0)),.rd [] (.v (.int .i64 0)),.rd [] (.v (.int .i64 0)),.rd [] (.v (.slice none 0 0)),.rd [] (.v (.slice none 0 0)),.rd [] (.v (.slice none 0 0)),.rd [] (.v (.int .i64 0)),.rd [] (.v (.int .i64 0)),.rd [] (.v (.slice none 0 0)),.rd [] (.v (.slice none 0 0)),.rd [] (.v (.slice none 0 0)),.rd [] (.v (.slice none 0 0)),.rd [] (.v (.slice none 0 0)),.rd [] (.v (.int .i64 0)),.rd [] (.v (.int .i64 0)),.rd [] (.v (.int .i64 0)),.rd [] (.v (.int .i64 0)),.rd [] (.v (.int .i64 0))],.box [.rd [] (.v (.int .i64 x.Me)),.rd [] (.v (.int .i64 x.Delay)),.rd [] (.v (.int .i64 x.Ahead)),.rd [] (.v (.int .i64 x.Seed)),.ref 3,.ref 4,.rd [] (.v (.int .i64 x.Base.Tick)),.rd [] (.v (.int .i64 x.Base.Seed)),.ref 5,.ref 6,.ref 7,.rd [] (.v (.int .i64 x.Now.Tick)),.rd [] (.v (.int .i64 x.Now.Seed)),.ref 8,.ref 9,.ref 10,.ref 11,.ref 12,.rd [] (.v (.int .i64 x.Fault.Tick)),.rd [] (.v (.int .i64 x.Fault.Player)),.rd [] (.v (.int .i64 x.Fault.Add)),.rd [] (.v (.int .i64 x.Rolls)),.rd [] (.v (.int .i64 x.Again))],.row 1 (els x.Tracks),.row 1 (els x.Base.Level.Rows),.row 1 (els x.Base.Scores),.row 9 (els x.Base.Bodies),.row 1 (els x.Now.Level.Rows),.row 1 (els x.Now.Scores),.row 9 (els x.Now.Bodies),.row 1 (els x.Used),.row 2 (els x.Saves),.row 1 (els x.Sums)]⟩:St)) (Xy [0,1,2,3,4,5,6,7,8,9,10,11,12] (by kernel_rfl)) ?_;refine z4 J J J ?_;refine AL.weak (st':=(⟨_,[(2,.o (.c (.ptr 1 0))),(50,.o (.ag [.rd [] (.v (.int .i64 x.Me)),.rd [] (.v (.int .i64 x.Delay)),.rd [] (.v (.int .i64 x.Ahead)),.rd [] (.v (.int .i64 x.Seed)),.ref 3,.ref 4,.rd [] (.v (.int .i64 x.Base.Tick)),.rd [] (.v (.int .i64 x.Base.Seed)),.ref 5,.ref 6,.ref 7,.rd [] (.v (.int .i64 x.Now.Tick)),.rd [] (.v (.int .i64 x.Now.Seed)),.ref 8,.ref 9,.ref 10,.ref 11,.ref 12,.rd [] (.v (.int .i64 x.Fault.Tick)),.rd [] (.v (.int .i64 x.Fault.Player)),.rd [] (.v (.int .i64 x.Fault.Add)),.rd [] (.v (.int .i64 x.Rolls)),.rd [] (.v (.int .i64 x.Again))]))],[.box ((Enc.e x).map (V1.rd [])),.box [.rd [] (.v (.int .i64 0)),.rd [] (.v (.int .i64 0)),.rd [] (.v (.int .i64 0)),.rd [] (.v (.int .i64 0)),.rd [] (.v (.slice none 0 0)),.rd [] (.v (.slice none 0 0)),.rd [] (.v (.int .i64 0)),.rd [] (.v (.int .i64 0)),.rd [] (.v (.slice none 0 0)),.rd [] (.v (.slice none 0 0)),.rd [] (.v (.slice none 0 0)),.rd [] (.v (.int .i64 0)),.rd [] (.v (.int .i64 0)),.rd [] (.v (.slice none 0 0)),.rd [] (.v (.slice none 0 0)),.rd [] (.v (.slice none 0 0)),.rd [] (.v (.slice none 0 0)),.rd [] (.v (.slice none 0 0)),.rd [] (.v (.int .i64 0)),.rd [] (.v (.int .i64 0)),.rd [] (.v (.int .i64 0)),.rd [] (.v (.int .i64 0)),.rd [] (.v (.int .i64 0))],.box [.rd [] (.v (.int .i64 x.Me)),.rd [] (.v (.int .i64 x.Delay)),.rd [] (.v (.int .i64 x.Ahead)),.rd [] (.v (.int .i64 x.Seed)),.ref 3,.ref 4,.rd [] (.v (.int .i64 x.Base.Tick)),.rd [] (.v (.int .i64 x.Base.Seed)),.ref 5,.ref 6,.ref 7,.rd [] (.v (.int .i64 x.Now.Tick)),.rd [] (.v (.int .i64 x.Now.Seed)),.ref 8,.ref 9,.ref 10,.ref 11,.ref 12,.rd [] (.v (.int .i64 x.Fault.Tick)),.rd [] (.v (.int .i64 x.Fault.Player)),.rd [] (.v (.int .i64 x.Fault.Add)),.rd [] (.v (.int .i64 x.Rolls)),.rd [] (.v (.int .i64 x.Again))],.row 1 (els x.Tracks),.row 1 (els x.Base.Level.Rows),.row 1 (els x.Base.Scores),.row 9 (els x.Base.Bodies),.row 1 (els x.Now.Level.Rows),.row 1 (els x.Now.Scores),.row 9 (els x.Now.Bodies),.row 1 (els x.Used),.row 2 (els x.Saves),.row 1 (els x.Sums)]⟩:St)) (Xy [0,1,2,3,4,5,6,7,8,9,10,11,12] (by kernel_rfl)) ?_;refine Qy J J J J J J J J J ?_;refine AL.weak (st':=(⟨_,[(2,.o (.c (.ptr 1 0)))],[.box ((Enc.e x).map (V1.rd [])),.box [.rd [] (.v (.int .i64 x.Me)),.rd [] (.v (.int .i64 x.Delay)),.rd [] (.v (.int .i64 x.Ahead)),.rd [] (.v (.int .i64 x.Seed)),.ref 3,.ref 4,.rd [] (.v (.int .i64 x.Base.Tick)),.rd [] (.v (.int .i64 x.Base.Seed)),.ref 5,.ref 6,.ref 7,.rd [] (.v (.int .i64 x.Now.Tick)),.rd [] (.v (.int .i64 x.Now.Seed)),.ref 8,.ref 9,.ref 10,.ref 11,.ref 12,.rd [] (.v (.int .i64 x.Fault.Tick)),.rd [] (.v (.int .i64 x.Fault.Player)),.rd [] (.v (.int .i64 x.Fault.Add)),.rd [] (.v (.int .i64 x.Rolls)),.rd [] (.v (.int .i64 x.Again))],.box [.rd [] (.v (.int .i64 x.Me)),.rd [] (.v (.int .i64 x.Delay)),.rd [] (.v (.int .i64 x.Ahead)),.rd [] (.v (.int .i64 x.Seed)),.ref 3,.ref 4,.rd [] (.v (.int .i64 x.Base.Tick)),.rd [] (.v (.int .i64 x.Base.Seed)),.ref 5,.ref 6,.ref 7,.rd [] (.v (.int .i64 x.Now.Tick)),.rd [] (.v (.int .i64 x.Now.Seed)),.ref 8,.ref 9,.ref 10,.ref 11,.ref 12,.rd [] (.v (.int .i64 x.Fault.Tick)),.rd [] (.v (.int .i64 x.Fault.Player)),.rd [] (.v (.int .i64 x.Fault.Add)),.rd [] (.v (.int .i64 x.Rolls)),.rd [] (.v (.int .i64 x.Again))],.row 1 (els x.Tracks),.row 1 (els x.Base.Level.Rows),.row 1 (els x.Base.Scores),.row 9 (els x.Base.Bodies),.row 1 (els x.Now.Level.Rows),.row 1 (els x.Now.Scores),.row 9 (els x.Now.Bodies),.row 1 (els x.Used),.row 2 (els x.Saves),.row 1 (els x.Sums)]⟩:St)) (Xz [0,1,2,3,4,5,6,7,8,9,10,11,12] (by decide) J ((by kernel_rfl)) (.c J (.nil))) ?_;refine Wz [4,99] ?_;refine Xi (cs := [.rd [] (.v (.int .i64 x.Me)),.rd [] (.v (.int .i64 x.Delay)),.rd [] (.v (.int .i64 x.Ahead)),.rd [] (.v (.int .i64 x.Seed)),.ref 3,.ref 4,.rd [] (.v (.int .i64 x.Base.Tick)),.rd [] (.v (.int .i64 x.Base.Seed)),.ref 5,.ref 6,.ref 7,.rd [] (.v (.int .i64 x.Now.Tick)),.rd [] (.v (.int .i64 x.Now.Seed)),.ref 8,.ref 9,.ref 10,.ref 11,.ref 12,.rd [] (.v (.int .i64 x.Fault.Tick)),.rd [] (.v (.int .i64 x.Fault.Player)),.rd [] (.v (.int .i64 x.Fault.Add)),.rd [] (.v (.int .i64 x.Rolls)),.rd [] (.v (.int .i64 x.Again))]) J J J J ?_
 exact Xw [3,4,5,6,7,8,9,10,11,12] (by decide) J (by kernel_rfl) (by kernel_rfl)
theorem sz_Peer (x:TPeer) (left:Int) (hg:Enc.gd x) (h0:0≤left) (h1:left≤1048576):Con Tryz.prog 30 [] [ag x,ai left] [] (I (szr (Enc.wt x) left)):=by
 obtain⟨g_Me,g_Delay,g_Ahead,g_Seed,g_Tracks,g_Base,g_Now,g_Used,g_Saves,g_Sums,g_Fault,g_Rolls,g_Again⟩:=hg
 have hw:Enc.wt x=Enc.wt x.Tracks+Enc.wt x.Base+Enc.wt x.Now+Enc.wt x.Used+Enc.wt x.Saves+Enc.wt x.Sums+Enc.wt x.Fault:=rfl
 have hm1:decide ((-1:Int)<0)=true:=rfl
 have hz_Fault:Enc.wt x.Fault=0:=rfl
 have hc_Tracks:=sz_TrackS x.Tracks (left) g_Tracks (by omega) (by omega)
 by_cases n_Tracks:left<Enc.wt x.Tracks
 ·rw[Kl n_Tracks] at hc_Tracks
  refine Con.of Tryz.func30 J Tryz.ntmps30 J (fun E => ?_)
  refine Wz [47,71] ?_;refine zx (Qj J J (hc_Tracks) J) J ?_;refine Wz [80,23] ?_
  exact Xk J J (Xw [] (by decide) J J (Xn (by rw[Kl (by omega)])))
 rw[Km (by omega)] at hc_Tracks
 have hb_Tracks:decide (left-Enc.wt x.Tracks<0)=false:=Gqa (by omega)
 have hc_Base:=sz_World x.Base (left-Enc.wt x.Tracks) g_Base (by omega) (by omega)
 by_cases n_Base:left-Enc.wt x.Tracks<Enc.wt x.Base
 ·rw[Kl n_Base] at hc_Base
  refine Con.of Tryz.func30 J Tryz.ntmps30 J (fun E => ?_)
  refine Wz [47,71] ?_;refine zx (Qj J J (hc_Tracks) J) J ?_;refine Wz [101,94] ?_;refine zx (Qj J J (hc_Base) J) J ?_;refine Wz [80,23] ?_
  exact Xk J J (Xw [] (by decide) J J (Xn (by rw[Kl (by omega)])))
 rw[Km (by omega)] at hc_Base
 have hb_Base:decide (left-Enc.wt x.Tracks-Enc.wt x.Base<0)=false:=Gqa (by omega)
 have hc_Now:=sz_World x.Now (left-Enc.wt x.Tracks-Enc.wt x.Base) g_Now (by omega) (by omega)
 by_cases n_Now:left-Enc.wt x.Tracks-Enc.wt x.Base<Enc.wt x.Now
 ·rw[Kl n_Now] at hc_Now
  refine Con.of Tryz.func30 J Tryz.ntmps30 J (fun E => ?_)
  refine Wz [47,71] ?_;refine zx (Qj J J (hc_Tracks) J) J ?_;refine Wz [101,94] ?_;refine zx (Qj J J (hc_Base) J) J ?_;refine Wz [101,94] ?_;refine zx (Qj J J (hc_Now) J) J ?_;refine Wz [80,23] ?_
  exact Xk J J (Xw [] (by decide) J J (Xn (by rw[Kl (by omega)])))
 rw[Km (by omega)] at hc_Now
 have hb_Now:decide (left-Enc.wt x.Tracks-Enc.wt x.Base-Enc.wt x.Now<0)=false:=Gqa (by omega)
 have hc_Used:=sz_IntSS x.Used (left-Enc.wt x.Tracks-Enc.wt x.Base-Enc.wt x.Now) g_Used (by omega) (by omega)
 by_cases n_Used:left-Enc.wt x.Tracks-Enc.wt x.Base-Enc.wt x.Now<Enc.wt x.Used
 ·rw[Kl n_Used] at hc_Used
  refine Con.of Tryz.func30 J Tryz.ntmps30 J (fun E => ?_)
  refine Wz [47,71] ?_;refine zx (Qj J J (hc_Tracks) J) J ?_;refine Wz [101,94] ?_;refine zx (Qj J J (hc_Base) J) J ?_;refine Wz [101,94] ?_;refine zx (Qj J J (hc_Now) J) J ?_;refine Wz [24] ?_;refine zx (Qj J J (hc_Used) J) J ?_;refine Wz [80,23] ?_
  exact Xk J J (Xw [] (by decide) J J (Xn (by rw[Kl (by omega)])))
 rw[Km (by omega)] at hc_Used
 have hb_Used:decide (left-Enc.wt x.Tracks-Enc.wt x.Base-Enc.wt x.Now-Enc.wt x.Used<0)=false:=Gqa (by omega)
 have hc_Saves:=sz_SaveS x.Saves (left-Enc.wt x.Tracks-Enc.wt x.Base-Enc.wt x.Now-Enc.wt x.Used) g_Saves (by omega) (by omega)
 by_cases n_Saves:left-Enc.wt x.Tracks-Enc.wt x.Base-Enc.wt x.Now-Enc.wt x.Used<Enc.wt x.Saves
 ·rw[Kl n_Saves] at hc_Saves
  refine Con.of Tryz.func30 J Tryz.ntmps30 J (fun E => ?_)
  refine Wz [47,71] ?_;refine zx (Qj J J (hc_Tracks) J) J ?_;refine Wz [101,94] ?_;refine zx (Qj J J (hc_Base) J) J ?_;refine Wz [101,94] ?_;refine zx (Qj J J (hc_Now) J) J ?_;refine Wz [24] ?_;refine zx (Qj J J (hc_Used) J) J ?_;refine Wz [24] ?_;refine zx (Qj J J (hc_Saves) J) J ?_;refine Wz [80,23] ?_
  exact Xk J J (Xw [] (by decide) J J (Xn (by rw[Kl (by omega)])))
 rw[Km (by omega)] at hc_Saves
 have hb_Saves:decide (left-Enc.wt x.Tracks-Enc.wt x.Base-Enc.wt x.Now-Enc.wt x.Used-Enc.wt x.Saves<0)=false:=Gqa (by omega)
 have hc_Sums:=sz_IntS x.Sums (left-Enc.wt x.Tracks-Enc.wt x.Base-Enc.wt x.Now-Enc.wt x.Used-Enc.wt x.Saves) g_Sums (by omega) (by omega)
 by_cases n_Sums:left-Enc.wt x.Tracks-Enc.wt x.Base-Enc.wt x.Now-Enc.wt x.Used-Enc.wt x.Saves<Enc.wt x.Sums
 ·rw[Kl n_Sums] at hc_Sums
  refine Con.of Tryz.func30 J Tryz.ntmps30 J (fun E => ?_)
  refine Wz [47,71] ?_;refine zx (Qj J J (hc_Tracks) J) J ?_;refine Wz [101,94] ?_;refine zx (Qj J J (hc_Base) J) J ?_;refine Wz [101,94] ?_;refine zx (Qj J J (hc_Now) J) J ?_;refine Wz [24] ?_;refine zx (Qj J J (hc_Used) J) J ?_;refine Wz [24] ?_;refine zx (Qj J J (hc_Saves) J) J ?_;refine Wz [24] ?_;refine zx (Qj J J (hc_Sums) J) J ?_;refine Wz [80,23] ?_
  exact Xk J J (Xw [] (by decide) J J (Xn (by rw[Kl (by omega)])))
 rw[Km (by omega)] at hc_Sums
 have hb_Sums:decide (left-Enc.wt x.Tracks-Enc.wt x.Base-Enc.wt x.Now-Enc.wt x.Used-Enc.wt x.Saves-Enc.wt x.Sums<0)=false:=Gqa (by omega)
 refine Con.of Tryz.func30 J Tryz.ntmps30 J (fun E => ?_)
 refine Wz [47,71] ?_;refine zx (Qj J J (hc_Tracks) J) J ?_;refine Wz [101,94] ?_;refine zx (Qj J J (hc_Base) J) J ?_;refine Wz [101,94] ?_;refine zx (Qj J J (hc_Now) J) J ?_;refine Wz [24] ?_;refine zx (Qj J J (hc_Used) J) J ?_;refine Wz [24] ?_;refine zx (Qj J J (hc_Saves) J) J ?_;refine Wz [24] ?_;refine zx (Qj J J (hc_Sums) J) J ?_;refine Wz [101,166] ?_
 exact Xk J J (Xw [] (by decide) J J (Xn (by rw[Km (by omega)]; omega)))
theorem eq_Peer (x y:TPeer) (hg:Enc.gd x):Con Tryz.prog 35 [] [ag x,ag y] [] (B (decide (x=y))):=by
 obtain⟨g_Me,g_Delay,g_Ahead,g_Seed,g_Tracks,g_Base,g_Now,g_Used,g_Saves,g_Sums,g_Fault,g_Rolls,g_Again⟩:=hg
 by_cases e_Me:¬x.Me=y.Me
 ·have hk:decide (x.Me≠y.Me)=true:=by simp[e_Me]
  refine Con.of Tryz.func35 J Tryz.ntmps35 J (fun E => ?_)
  refine Wz [34,33] ?_
  exact Xk J J (Xw [] (by decide) J J (Xg (Gqa fun e=>e_Me (by rw[e])).symm))
 have e_Me:=Classical.not_not.1 e_Me
 have k_Me:decide (x.Me≠y.Me)=false:=by simp[e_Me]
 by_cases e_Delay:¬x.Delay=y.Delay
 ·have hk:decide (x.Delay≠y.Delay)=true:=by simp[e_Delay]
  refine Con.of Tryz.func35 J Tryz.ntmps35 J (fun E => ?_)
  refine Wz [34,107,33] ?_
  exact Xk J J (Xw [] (by decide) J J (Xg (Gqa fun e=>e_Delay (by rw[e])).symm))
 have e_Delay:=Classical.not_not.1 e_Delay
 have k_Delay:decide (x.Delay≠y.Delay)=false:=by simp[e_Delay]
 by_cases e_Ahead:¬x.Ahead=y.Ahead
 ·have hk:decide (x.Ahead≠y.Ahead)=true:=by simp[e_Ahead]
  refine Con.of Tryz.func35 J Tryz.ntmps35 J (fun E => ?_)
  refine Wz [34,114,33] ?_
  exact Xk J J (Xw [] (by decide) J J (Xg (Gqa fun e=>e_Ahead (by rw[e])).symm))
 have e_Ahead:=Classical.not_not.1 e_Ahead
 have k_Ahead:decide (x.Ahead≠y.Ahead)=false:=by simp[e_Ahead]
 by_cases e_Seed:¬x.Seed=y.Seed
 ·have hk:decide (x.Seed≠y.Seed)=true:=by simp[e_Seed]
  refine Con.of Tryz.func35 J Tryz.ntmps35 J (fun E => ?_)
  refine Wz [34,114,107,33] ?_
  exact Xk J J (Xw [] (by decide) J J (Xg (Gqa fun e=>e_Seed (by rw[e])).symm))
 have e_Seed:=Classical.not_not.1 e_Seed
 have k_Seed:decide (x.Seed≠y.Seed)=false:=by simp[e_Seed]
 by_cases e_Tracks:¬x.Tracks=y.Tracks
 ·have hc:=eq_TrackS x.Tracks y.Tracks g_Tracks
  rw[Gqa e_Tracks] at hc
  refine Con.of Tryz.func35 J Tryz.ntmps35 J (fun E => ?_)
  refine Wz [34,121] ?_;refine zx (Qj J J (hc) J) J ?_;refine Wz [3,23] ?_
  exact Xk J J (Xw [] (by decide) J J (Xg (Gqa fun e=>e_Tracks (by rw[e])).symm))
 have e_Tracks:=Classical.not_not.1 e_Tracks
 have hc_Tracks:=eq_TrackS x.Tracks y.Tracks g_Tracks
 rw[Gqb e_Tracks] at hc_Tracks
 by_cases e_Base:¬x.Base=y.Base
 ·have hc:=eq_World x.Base y.Base g_Base
  rw[Gqa e_Base] at hc
  refine Con.of Tryz.func35 J Tryz.ntmps35 J (fun E => ?_)
  refine Wz [34,121] ?_;refine zx (Qj J J (hc_Tracks) J) J ?_;refine Wz [3,39,55] ?_;refine zx (Qj J J (hc) J) J ?_;refine Wz [3,23] ?_
  exact Xk J J (Xw [] (by decide) J J (Xg (Gqa fun e=>e_Base (by rw[e])).symm))
 have e_Base:=Classical.not_not.1 e_Base
 have hc_Base:=eq_World x.Base y.Base g_Base
 rw[Gqb e_Base] at hc_Base
 by_cases e_Now:¬x.Now=y.Now
 ·have hc:=eq_World x.Now y.Now g_Now
  rw[Gqa e_Now] at hc
  refine Con.of Tryz.func35 J Tryz.ntmps35 J (fun E => ?_)
  refine Wz [34,121] ?_;refine zx (Qj J J (hc_Tracks) J) J ?_;refine Wz [3,39,55] ?_;refine zx (Qj J J (hc_Base) J) J ?_;refine Wz [3,39,55] ?_;refine zx (Qj J J (hc) J) J ?_;refine Wz [3,23] ?_
  exact Xk J J (Xw [] (by decide) J J (Xg (Gqa fun e=>e_Now (by rw[e])).symm))
 have e_Now:=Classical.not_not.1 e_Now
 have hc_Now:=eq_World x.Now y.Now g_Now
 rw[Gqb e_Now] at hc_Now
 by_cases e_Used:¬x.Used=y.Used
 ·have hc:=eq_IntSS x.Used y.Used g_Used
  rw[Gqa e_Used] at hc
  refine Con.of Tryz.func35 J Tryz.ntmps35 J (fun E => ?_)
  refine Wz [34,121] ?_;refine zx (Qj J J (hc_Tracks) J) J ?_;refine Wz [3,39,55] ?_;refine zx (Qj J J (hc_Base) J) J ?_;refine Wz [3,39,55] ?_;refine zx (Qj J J (hc_Now) J) J ?_;refine Wz [10] ?_;refine zx (Qj J J (hc) J) J ?_;refine Wz [3,23] ?_
  exact Xk J J (Xw [] (by decide) J J (Xg (Gqa fun e=>e_Used (by rw[e])).symm))
 have e_Used:=Classical.not_not.1 e_Used
 have hc_Used:=eq_IntSS x.Used y.Used g_Used
 rw[Gqb e_Used] at hc_Used
 by_cases e_Saves:¬x.Saves=y.Saves
 ·have hc:=eq_SaveS x.Saves y.Saves g_Saves
  rw[Gqa e_Saves] at hc
  refine Con.of Tryz.func35 J Tryz.ntmps35 J (fun E => ?_)
  refine Wz [34,121] ?_;refine zx (Qj J J (hc_Tracks) J) J ?_;refine Wz [3,39,55] ?_;refine zx (Qj J J (hc_Base) J) J ?_;refine Wz [3,39,55] ?_;refine zx (Qj J J (hc_Now) J) J ?_;refine Wz [10] ?_;refine zx (Qj J J (hc_Used) J) J ?_;refine Wz [10] ?_;refine zx (Qj J J (hc) J) J ?_;refine Wz [3,23] ?_
  exact Xk J J (Xw [] (by decide) J J (Xg (Gqa fun e=>e_Saves (by rw[e])).symm))
 have e_Saves:=Classical.not_not.1 e_Saves
 have hc_Saves:=eq_SaveS x.Saves y.Saves g_Saves
 rw[Gqb e_Saves] at hc_Saves
 by_cases e_Sums:¬x.Sums=y.Sums
 ·have hc:=eq_IntS x.Sums y.Sums g_Sums
  rw[Gqa e_Sums] at hc
  refine Con.of Tryz.func35 J Tryz.ntmps35 J (fun E => ?_)
  refine Wz [34,121] ?_;refine zx (Qj J J (hc_Tracks) J) J ?_;refine Wz [3,39,55] ?_;refine zx (Qj J J (hc_Base) J) J ?_;refine Wz [3,39,55] ?_;refine zx (Qj J J (hc_Now) J) J ?_;refine Wz [10] ?_;refine zx (Qj J J (hc_Used) J) J ?_;refine Wz [10] ?_;refine zx (Qj J J (hc_Saves) J) J ?_;refine Wz [10] ?_;refine zx (Qj J J (hc) J) J ?_;refine Wz [3,23] ?_
  exact Xk J J (Xw [] (by decide) J J (Xg (Gqa fun e=>e_Sums (by rw[e])).symm))
 have e_Sums:=Classical.not_not.1 e_Sums
 have hc_Sums:=eq_IntS x.Sums y.Sums g_Sums
 rw[Gqb e_Sums] at hc_Sums
 by_cases e_Fault:¬x.Fault=y.Fault
 ·have hc:=eq_Fault x.Fault y.Fault g_Fault
  rw[Gqa e_Fault] at hc
  refine Con.of Tryz.func35 J Tryz.ntmps35 J (fun E => ?_)
  refine Wz [34,121] ?_;refine zx (Qj J J (hc_Tracks) J) J ?_;refine Wz [3,39,55] ?_;refine zx (Qj J J (hc_Base) J) J ?_;refine Wz [3,39,55] ?_;refine zx (Qj J J (hc_Now) J) J ?_;refine Wz [10] ?_;refine zx (Qj J J (hc_Used) J) J ?_;refine Wz [10] ?_;refine zx (Qj J J (hc_Saves) J) J ?_;refine Wz [10] ?_;refine zx (Qj J J (hc_Sums) J) J ?_;refine Wz [3,39,55] ?_;refine zx (Qj J J (hc) J) J ?_;refine Wz [3,23] ?_
  exact Xk J J (Xw [] (by decide) J J (Xg (Gqa fun e=>e_Fault (by rw[e])).symm))
 have e_Fault:=Classical.not_not.1 e_Fault
 have hc_Fault:=eq_Fault x.Fault y.Fault g_Fault
 rw[Gqb e_Fault] at hc_Fault
 by_cases e_Rolls:¬x.Rolls=y.Rolls
 ·have hk:decide (x.Rolls≠y.Rolls)=true:=by simp[e_Rolls]
  refine Con.of Tryz.func35 J Tryz.ntmps35 J (fun E => ?_)
  refine Wz [34,121] ?_;refine zx (Qj J J (hc_Tracks) J) J ?_;refine Wz [3,39,55] ?_;refine zx (Qj J J (hc_Base) J) J ?_;refine Wz [3,39,55] ?_;refine zx (Qj J J (hc_Now) J) J ?_;refine Wz [10] ?_;refine zx (Qj J J (hc_Used) J) J ?_;refine Wz [10] ?_;refine zx (Qj J J (hc_Saves) J) J ?_;refine Wz [10] ?_;refine zx (Qj J J (hc_Sums) J) J ?_;refine Wz [3,39,55] ?_;refine zx (Qj J J (hc_Fault) J) J ?_;refine Wz [10,33] ?_
  exact Xk J J (Xw [] (by decide) J J (Xg (Gqa fun e=>e_Rolls (by rw[e])).symm))
 have e_Rolls:=Classical.not_not.1 e_Rolls
 have k_Rolls:decide (x.Rolls≠y.Rolls)=false:=by simp[e_Rolls]
 by_cases e_Again:¬x.Again=y.Again
 ·have hk:decide (x.Again≠y.Again)=true:=by simp[e_Again]
  refine Con.of Tryz.func35 J Tryz.ntmps35 J (fun E => ?_)
  refine Wz [34,121] ?_;refine zx (Qj J J (hc_Tracks) J) J ?_;refine Wz [3,39,55] ?_;refine zx (Qj J J (hc_Base) J) J ?_;refine Wz [3,39,55] ?_;refine zx (Qj J J (hc_Now) J) J ?_;refine Wz [10] ?_;refine zx (Qj J J (hc_Used) J) J ?_;refine Wz [10] ?_;refine zx (Qj J J (hc_Saves) J) J ?_;refine Wz [10] ?_;refine zx (Qj J J (hc_Sums) J) J ?_;refine Wz [3,39,55] ?_;refine zx (Qj J J (hc_Fault) J) J ?_;refine Wz [10,107,33] ?_
  exact Xk J J (Xw [] (by decide) J J (Xg (Gqa fun e=>e_Again (by rw[e])).symm))
 have e_Again:=Classical.not_not.1 e_Again
 have k_Again:decide (x.Again≠y.Again)=false:=by simp[e_Again]
 refine Con.of Tryz.func35 J Tryz.ntmps35 J (fun E => ?_)
 refine Wz [34,121] ?_;refine zx (Qj J J (hc_Tracks) J) J ?_;refine Wz [3,39,55] ?_;refine zx (Qj J J (hc_Base) J) J ?_;refine Wz [3,39,55] ?_;refine zx (Qj J J (hc_Now) J) J ?_;refine Wz [10] ?_;refine zx (Qj J J (hc_Used) J) J ?_;refine Wz [10] ?_;refine zx (Qj J J (hc_Saves) J) J ?_;refine Wz [10] ?_;refine zx (Qj J J (hc_Sums) J) J ?_;refine Wz [3,39,55] ?_;refine zx (Qj J J (hc_Fault) J) J ?_;refine Wz [10,107,83,54,61] ?_
 exact Xk J J (Xw [] (by decide) J J (Xg (Gqb (TPeer.same e_Me e_Delay e_Ahead e_Seed e_Tracks e_Base e_Now e_Used e_Saves e_Sums e_Fault e_Rolls e_Again)).symm))
end
end Go.Proofs.YtoecjaohdnoenaaGreat
