/-
  Rules, data and contracts of functions: part 16 of the proof.
  Conditions: those that each theorem names.
-/
import Derived.Test.YtpmacgnmlmmojaaGreatDoorDDDiagRowk14
set_option linter.unusedVariables false
set_option linter.unusedSimpArgs false
set_option maxRecDepth 8000
set_option maxHeartbeats 8000000
namespace Go.Proofs.YtpmacgnmlmmojaaGreatDoor
section
open Go.RowKit

structure TTrack where
 Inputs:(List Int)
 deriving DecidableEq
instance:Enc TTrack:=⟨1,by omega,fun x => [sl x.Inputs],fun _=>rfl,fun x=>Enc.gd x.Inputs,fun x=>Enc.wt x.Inputs⟩
theorem TTrack.same {x y:TTrack} (h0:x.Inputs=y.Inputs):x=y:=by cases x; cases y; simp_all
structure TSave where
 Tick:Int
 Delta:ByteArray
 deriving DecidableEq
instance:Enc TSave:=⟨2,by omega,fun x => [.v (.int .i64 x.Tick),.v (.string x.Delta)],fun _=>rfl,fun x=>Enc.gd x.Tick∧Enc.gd x.Delta,fun x=>Enc.wt x.Delta⟩
theorem TSave.same {x y:TSave} (h0:x.Tick=y.Tick) (h1:x.Delta=y.Delta):x=y:=by cases x; cases y; simp_all
structure TFault where
 Tick:Int
 Player:Int
 Add:Int
 deriving DecidableEq
instance:Enc TFault:=⟨3,by omega,fun x => [.v (.int .i64 x.Tick),.v (.int .i64 x.Player),.v (.int .i64 x.Add)],fun _=>rfl,fun x=>Enc.gd x.Tick∧Enc.gd x.Player∧Enc.gd x.Add,fun x=>0⟩
theorem TFault.same {x y:TFault} (h0:x.Tick=y.Tick) (h1:x.Player=y.Player) (h2:x.Add=y.Add):x=y:=by cases x; cases y; simp_all
structure TPacket where
 From:Int
 Tick:Int
 First:Int
 Inputs:(List Int)
 Acks:(List Int)
 SumTick:Int
 Sum:Int
 Time:Int
 Echo:Int
 deriving DecidableEq
instance:Enc TPacket:=⟨9,by omega,fun x => [.v (.int .i64 x.From),.v (.int .i64 x.Tick),.v (.int .i64 x.First),sl x.Inputs,sl x.Acks,.v (.int .i64 x.SumTick),.v (.int .i64 x.Sum),.v (.int .i64 x.Time),.v (.int .i64 x.Echo)],fun _=>rfl,fun x=>Enc.gd x.From∧Enc.gd x.Tick∧Enc.gd x.First∧Enc.gd x.Inputs∧Enc.gd x.Acks∧Enc.gd x.SumTick∧Enc.gd x.Sum∧Enc.gd x.Time∧Enc.gd x.Echo,fun x=>Enc.wt x.Inputs+Enc.wt x.Acks⟩
theorem TPacket.same {x y:TPacket} (h0:x.From=y.From) (h1:x.Tick=y.Tick) (h2:x.First=y.First) (h3:x.Inputs=y.Inputs) (h4:x.Acks=y.Acks) (h5:x.SumTick=y.SumTick) (h6:x.Sum=y.Sum) (h7:x.Time=y.Time) (h8:x.Echo=y.Echo):x=y:=by cases x; cases y; simp_all
structure TPeer where
 Me:Int
 Delay:Int
 Ahead:Int
 Seed:Int
 Tracks:(List TTrack)
 Base:TWorld
 Now:TWorld
 Used:(List (List Int))
 Saves:(List TSave)
 Sums:(List Int)
 Fault:TFault
 Rolls:Int
 Again:Int
 deriving DecidableEq
instance:Enc TPeer:=⟨23,by omega,fun x => [.v (.int .i64 x.Me),.v (.int .i64 x.Delay),.v (.int .i64 x.Ahead),.v (.int .i64 x.Seed),sl x.Tracks,sl x.Base.Level.Rows,.v (.int .i64 x.Base.Tick),.v (.int .i64 x.Base.Seed),sl x.Base.Scores,sl x.Base.Bodies,sl x.Now.Level.Rows,.v (.int .i64 x.Now.Tick),.v (.int .i64 x.Now.Seed),sl x.Now.Scores,sl x.Now.Bodies,sl x.Used,sl x.Saves,sl x.Sums,.v (.int .i64 x.Fault.Tick),.v (.int .i64 x.Fault.Player),.v (.int .i64 x.Fault.Add),.v (.int .i64 x.Rolls),.v (.int .i64 x.Again)],fun _=>rfl,fun x=>Enc.gd x.Me∧Enc.gd x.Delay∧Enc.gd x.Ahead∧Enc.gd x.Seed∧Enc.gd x.Tracks∧Enc.gd x.Base∧Enc.gd x.Now∧Enc.gd x.Used∧Enc.gd x.Saves∧Enc.gd x.Sums∧Enc.gd x.Fault∧Enc.gd x.Rolls∧Enc.gd x.Again,fun x=>Enc.wt x.Tracks+Enc.wt x.Base+Enc.wt x.Now+Enc.wt x.Used+Enc.wt x.Saves+Enc.wt x.Sums+Enc.wt x.Fault⟩
theorem TPeer.same {x y:TPeer} (h0:x.Me=y.Me) (h1:x.Delay=y.Delay) (h2:x.Ahead=y.Ahead) (h3:x.Seed=y.Seed) (h4:x.Tracks=y.Tracks) (h5:x.Base=y.Base) (h6:x.Now=y.Now) (h7:x.Used=y.Used) (h8:x.Saves=y.Saves) (h9:x.Sums=y.Sums) (h10:x.Fault=y.Fault) (h11:x.Rolls=y.Rolls) (h12:x.Again=y.Again):x=y:=by cases x; cases y; simp_all

theorem sz_Track (x:TTrack) (left:Int) (hg:Enc.gd x) (h0:0≤left) (h1:left≤1048576):Con Tryz.prog 157 [] [ag x,ai left] [] (I (szr (Enc.wt x) left)):=by
 have g_Inputs:Enc.gd x.Inputs:=hg
 have hw:Enc.wt x=Enc.wt x.Inputs:=rfl
 have hm1:decide ((-1:Int)<0)=true:=rfl
 have hc_Inputs:=sz_IntS x.Inputs (left) g_Inputs (by omega) (by omega)
 by_cases n_Inputs:left<Enc.wt x.Inputs
 ·rw[Z9 n_Inputs] at hc_Inputs
  refine Con.of Tryz.func157 J Tryz.ntmps157 J (fun E => ?_)
  refine Wz [44,32] ?_;refine zx (Qj J J (hc_Inputs) J) J ?_;refine Wz [113,57] ?_
  exact V3 J (V4 [] J J (Xv (by rw[V5])))
 rw[V6] at hc_Inputs
 have hb_Inputs:decide (left-Enc.wt x.Inputs<0)=false:=Gqa (by omega)
 refine Con.of Tryz.func157 J Tryz.ntmps157 J (fun E => ?_)
 refine Wz [44,32] ?_;refine zx (Qj J J (hc_Inputs) J) J ?_;refine Wz [59,224] ?_
 exact V3 J (V4 [] J J (Xv (by rw[V6]; omega)))
theorem to_Track (x:TTrack) (hg:Enc.wt x≤1048576):Con Tryz.prog 176 [] [ag x] (ownO (Enc.e x)) (.o (.ag (ownV 0 (Enc.e x)))):=by
 have hw:Enc.wt x=Enc.wt x.Inputs:=rfl
 refine Con.of Tryz.func176 J Tryz.ntmps176 J (fun E => ?_)
 refine Wz [118,1,163,14] ?_;refine M1 (Zc J J (to_IntS x.Inputs (by omega)) J J J) J J ?_;refine Wz [20,89,68] ?_
 exact Xm J J J J (V4 [3] J J J)
theorem eq_Track (x y:TTrack) (hg:Enc.gd x):Con Tryz.prog 180 [] [ag x,ag y] [] (B (decide (x=y))):=by
 have g_Inputs:Enc.gd x.Inputs:=hg
 by_cases e_Inputs:¬x.Inputs=y.Inputs
 ·have hc:=eq_IntS x.Inputs y.Inputs g_Inputs
  rw[Gqa e_Inputs] at hc
  refine Con.of Tryz.func180 J Tryz.ntmps180 J (fun E => ?_)
  refine Wz [75] ?_;refine zx (Qj J J (hc) J) J ?_;refine Wz [15,57] ?_
  exact V3 J (V4 [] J J (Xk (Gqa fun e=>e_Inputs (by rw[e])).symm))
 have e_Inputs:=Classical.not_not.1 e_Inputs
 have hc_Inputs:=eq_IntS x.Inputs y.Inputs g_Inputs
 rw[Gqb e_Inputs] at hc_Inputs
 refine Con.of Tryz.func180 J Tryz.ntmps180 J (fun E => ?_)
 refine Wz [75] ?_;refine zx (Qj J J (hc_Inputs) J) J ?_;refine Wz [76,98] ?_
 exact V3 J (V4 [] J J (Xk (Gqb (TTrack.same e_Inputs)).symm))
theorem sz_Save (x:TSave) (left:Int) (hg:Enc.gd x) (h0:0≤left) (h1:left≤1048576):Con Tryz.prog 160 [] [ag x,ai left] [] (I (szr (Enc.wt x) left)):=by
 obtain⟨g_Tick,g_Delta⟩:=hg
 have hw:Enc.wt x=Enc.wt x.Delta:=rfl
 have hm1:decide ((-1:Int)<0)=true:=rfl
 have hgd_Delta:x.Delta.size≤9223372036854775807:=g_Delta
 have hs_Delta:Enc.wt x.Delta=x.Delta.size:=rfl
 by_cases n_Delta:left-(x.Delta.size:Int)<0
 ·have hb:decide (left-(x.Delta.size:Int)<0)=true:=Gqb n_Delta
  refine Con.of Tryz.func160 J Tryz.ntmps160 J (fun E => ?_)
  refine Wz [44,6,10,143,35,113,57] ?_
  exact V3 J (V4 [] J J (Xv (by rw[V5])))
 have hb_Delta:decide (left-(x.Delta.size:Int)<0)=false:=Gqa n_Delta
 refine Con.of Tryz.func160 J Tryz.ntmps160 J (fun E => ?_)
 refine Wz [44,6,10,143,35,59,224] ?_
 exact V3 J (V4 [] J J (Xv (by rw[V6]; omega)))
theorem to_Save (x:TSave) (hg:Enc.wt x≤1048576):Con Tryz.prog 179 [] [ag x] (ownO (Enc.e x)) (.o (.ag (ownV 0 (Enc.e x)))):=by
 have hw:Enc.wt x=Enc.wt x.Delta:=rfl
 refine Con.of Tryz.func179 J Tryz.ntmps179 J (fun E => ?_)
 refine Wz [118,1,163,14,20,14,20,89,68] ?_
 exact Xm J J J J (V4 [] J J J)
theorem eq_Save (x y:TSave) (hg:Enc.gd x):Con Tryz.prog 183 [] [ag x,ag y] [] (B (decide (x=y))):=by
 obtain⟨g_Tick,g_Delta⟩:=hg
 by_cases e_Tick:¬x.Tick=y.Tick
 ·have hk:decide (x.Tick≠y.Tick)=true:=by simp[e_Tick]
  refine Con.of Tryz.func183 J Tryz.ntmps183 J (fun E => ?_)
  refine Wz [75,92] ?_
  exact V3 J (V4 [] J J (Xk (Gqa fun e=>e_Tick (by rw[e])).symm))
 have e_Tick:=Classical.not_not.1 e_Tick
 have k_Tick:decide (x.Tick≠y.Tick)=false:=by simp[e_Tick]
 by_cases e_Delta:¬x.Delta=y.Delta
 ·have hk:decide (x.Delta≠y.Delta)=true:=by simp[e_Delta]
  refine Con.of Tryz.func183 J Tryz.ntmps183 J (fun E => ?_)
  refine Wz [75,176,233,57] ?_
  exact V3 J (V4 [] J J (Xk (Gqa fun e=>e_Delta (by rw[e])).symm))
 have e_Delta:=Classical.not_not.1 e_Delta
 have k_Delta:decide (x.Delta≠y.Delta)=false:=by simp[e_Delta]
 refine Con.of Tryz.func183 J Tryz.ntmps183 J (fun E => ?_)
 refine Wz [75,176,233,47,98] ?_
 exact V3 J (V4 [] J J (Xk (Gqb (TSave.same e_Tick e_Delta)).symm))
theorem to_Fault (x:TFault) (hg:Enc.wt x≤1048576):Con Tryz.prog 95 [] [ag x] (ownO (Enc.e x)) (.o (.ag (ownV 0 (Enc.e x)))):=by
 refine Con.of Tryz.func95 J Tryz.ntmps95 J (fun E => ?_)
 refine Wz [118,1,163,14,20,14,20,14,20,89,68] ?_
 exact Xm J J J J (V4 [] J J J)
theorem eq_Fault (x y:TFault) (hg:Enc.gd x):Con Tryz.prog 102 [] [ag x,ag y] [] (B (decide (x=y))):=by
 obtain⟨g_Tick,g_Player,g_Add⟩:=hg
 by_cases e_Tick:¬x.Tick=y.Tick
 ·have hk:decide (x.Tick≠y.Tick)=true:=by simp[e_Tick]
  refine Con.of Tryz.func102 J Tryz.ntmps102 J (fun E => ?_)
  refine Wz [75,92] ?_
  exact V3 J (V4 [] J J (Xk (Gqa fun e=>e_Tick (by rw[e])).symm))
 have e_Tick:=Classical.not_not.1 e_Tick
 have k_Tick:decide (x.Tick≠y.Tick)=false:=by simp[e_Tick]
 by_cases e_Player:¬x.Player=y.Player
 ·have hk:decide (x.Player≠y.Player)=true:=by simp[e_Player]
  refine Con.of Tryz.func102 J Tryz.ntmps102 J (fun E => ?_)
  refine Wz [75,176,92] ?_
  exact V3 J (V4 [] J J (Xk (Gqa fun e=>e_Player (by rw[e])).symm))
 have e_Player:=Classical.not_not.1 e_Player
 have k_Player:decide (x.Player≠y.Player)=false:=by simp[e_Player]
 by_cases e_Add:¬x.Add=y.Add
 ·have hk:decide (x.Add≠y.Add)=true:=by simp[e_Add]
  refine Con.of Tryz.func102 J Tryz.ntmps102 J (fun E => ?_)
  refine Wz [75,49,92] ?_
  exact V3 J (V4 [] J J (Xk (Gqa fun e=>e_Add (by rw[e])).symm))
 have e_Add:=Classical.not_not.1 e_Add
 have k_Add:decide (x.Add≠y.Add)=false:=by simp[e_Add]
 refine Con.of Tryz.func102 J Tryz.ntmps102 J (fun E => ?_)
 refine Wz [75,49,58,47,98] ?_
 exact V3 J (V4 [] J J (Xk (Gqb (TFault.same e_Tick e_Player e_Add)).symm))
theorem sz_TrackS (xs:List TTrack) (left:Int) (hg:Enc.gd xs) (h0:0≤left) (h1:left≤1048576):Con Tryz.prog 81 [] [al xs,ai left] [] (I (szr (Enc.wt xs) left)):=by
 have hlen:=Ye xs
 have hx:=hg.1
 have hw:Enc.wt xs=xs.length+wts xs:=rfl
 refine Con.of Tryz.func81 J Tryz.ntmps81 J (fun E => ?_)
 refine Wz [34,23,12,35,46,67] ?_
 refine Xb J (fun h => ?_) (fun h => ?_)
 ·refine Wz [107] ?_
  have h2:=Gqd h
  exact V3 J (V4 [] J J (Xv (by rw[V5])))
 have h2:¬(left-((els xs).length:Int)<0):=Gqf h
 refine Wz [27,42] ?_
 refine Xj (fun m st=>∃ k:Nat,k+m=xs.length∧(((xs.length:Int)+wts (xs.take k)≤left))∧st=(⟨_,[(0,L xs),(1,I (left-(xs.length+wts (xs.take k)))),(5,I k)],[]⟩:St)) (xs.length) ⟨(fun k:Nat=>(⟨_,[(0,L xs),(1,I (left-(xs.length+wts (xs.take k)))),(5,I k)],[]⟩:St)) 0,⟨0,by omega,by simp[wts]; omega,J⟩,V0 [] J (by kernel_rfl) (.c J (.cons (Xv (by simp[els,wts])) (.c J (.nil))))⟩ ?_
 rintro m_A _ ⟨k,hk_A,hp_A,rfl⟩
 refine Wz [18,87] ?_
 refine Xb J (fun h => ?_) (fun h => ?_)
 ·have h3:k<xs.length:=by have:=Gqd h; omega
  have hat:=Yd h3
  have hstep:=wts_take xs k h3
  have hle:=Kg xs (k+1)
  have hc:=sz_Track xs[k] (left-((xs.length:Int)+wts (xs.take k))) (hg.2 _ (Gqi h3)) (by omega) (by omega)
  by_cases h4:left-((xs.length:Int)+wts (xs.take k))<Enc.wt xs[k]
  ·rw[Z9 h4] at hc
   have hb:decide ((-1:Int)<0)=true:=rfl
   refine Wz [16,23,119,0] ?_;refine zx (Qj J J (hc) J) J ?_;refine Wz [73,13,97,40] ?_
   exact V3 J (V4 [] J J (Xv (by rw[V5])))
  ·rw[V6] at hc
   have hb:decide (left-((xs.length:Int)+wts (xs.take k))-Enc.wt xs[k]<0)=false:=Gqa (by omega)
   refine Wz [16,23,119,0] ?_;refine zx (Qj J J (hc) J) J ?_;refine Wz [73,13,80] ?_
   exact⟨xs.length-(k+1),by omega,(fun k:Nat=>(⟨_,[(0,L xs),(1,I (left-(xs.length+wts (xs.take k)))),(5,I k)],[]⟩:St)) (k+1),⟨k+1,by omega,by omega,J⟩,V0 [] J (by kernel_rfl) (.c J (.cons (Xv (by rw[hstep]; omega)) (.c J (.nil))))⟩
 ·have h3:¬((k:Int)<(els xs).length):=Gqf h
  have hk:wts (xs.take k)=wts xs:=by rw[Gq3 (by omega)]
  refine Wz [111] ?_
  exact V3 J (V4 [] J J (Xv (by rw[V6]; omega)))
theorem sz_SaveS (xs:List TSave) (left:Int) (hg:Enc.gd xs) (h0:0≤left) (h1:left≤1048576):Con Tryz.prog 84 [] [al xs,ai left] [] (I (szr (Enc.wt xs) left)):=by
 have hlen:=Ye xs
 have hx:=hg.1
 have hw:Enc.wt xs=xs.length+wts xs:=rfl
 refine Con.of Tryz.func84 J Tryz.ntmps84 J (fun E => ?_)
 refine Wz [34,23,12,35,46,67] ?_
 refine Xb J (fun h => ?_) (fun h => ?_)
 ·refine Wz [107] ?_
  have h2:=Gqd h
  exact V3 J (V4 [] J J (Xv (by rw[V5])))
 have h2:¬(left-((els xs).length:Int)<0):=Gqf h
 refine Wz [27,42] ?_
 refine Xj (fun m st=>∃ k:Nat,k+m=xs.length∧(((xs.length:Int)+wts (xs.take k)≤left))∧st=(⟨_,[(0,L xs),(1,I (left-(xs.length+wts (xs.take k)))),(5,I k)],[]⟩:St)) (xs.length) ⟨(fun k:Nat=>(⟨_,[(0,L xs),(1,I (left-(xs.length+wts (xs.take k)))),(5,I k)],[]⟩:St)) 0,⟨0,by omega,by simp[wts]; omega,J⟩,V0 [] J (by kernel_rfl) (.c J (.cons (Xv (by simp[els,wts])) (.c J (.nil))))⟩ ?_
 rintro m_A _ ⟨k,hk_A,hp_A,rfl⟩
 refine Wz [18,87] ?_
 refine Xb J (fun h => ?_) (fun h => ?_)
 ·have h3:k<xs.length:=by have:=Gqd h; omega
  have hat:=Yd h3
  have hstep:=wts_take xs k h3
  have hle:=Kg xs (k+1)
  have hc:=sz_Save xs[k] (left-((xs.length:Int)+wts (xs.take k))) (hg.2 _ (Gqi h3)) (by omega) (by omega)
  by_cases h4:left-((xs.length:Int)+wts (xs.take k))<Enc.wt xs[k]
  ·rw[Z9 h4] at hc
   have hb:decide ((-1:Int)<0)=true:=rfl
   refine Wz [16,23,119,0] ?_;refine zx (Qj J J (hc) J) J ?_;refine Wz [73,13,97,40] ?_
   exact V3 J (V4 [] J J (Xv (by rw[V5])))
  ·rw[V6] at hc
   have hb:decide (left-((xs.length:Int)+wts (xs.take k))-Enc.wt xs[k]<0)=false:=Gqa (by omega)
   refine Wz [16,23,119,0] ?_;refine zx (Qj J J (hc) J) J ?_;refine Wz [73,13,80] ?_
   exact⟨xs.length-(k+1),by omega,(fun k:Nat=>(⟨_,[(0,L xs),(1,I (left-(xs.length+wts (xs.take k)))),(5,I k)],[]⟩:St)) (k+1),⟨k+1,by omega,by omega,J⟩,V0 [] J (by kernel_rfl) (.c J (.cons (Xv (by rw[hstep]; omega)) (.c J (.nil))))⟩
 ·have h3:¬((k:Int)<(els xs).length):=Gqf h
  have hk:wts (xs.take k)=wts xs:=by rw[Gq3 (by omega)]
  refine Wz [111] ?_
  exact V3 J (V4 [] J J (Xv (by rw[V6]; omega)))
def zSave:List T := [.v (.int .i64 0),.v (.string ⟨#[]⟩)]
def zTrack:List T := [.sl 1 []]
theorem to_TrackS (xs:List TTrack) (hg:Enc.wt xs≤1048576):Con Tryz.prog 90 [] [al xs] [.row 1 (els xs)] (.o (.c (.ref 0))):=by
 have hlen:=Ye xs
 have hw:Enc.wt xs=xs.length+wts xs:=rfl
 refine Con.of Tryz.func90 J Tryz.ntmps90 J (fun E => ?_)
 refine Wz [34,6,12,285,2,42] ?_;refine Xj (fun m st=>∃ k:Nat,k+m=xs.length∧(True)∧st=(⟨_,[(0,L xs),(3,.o (.c (.ref 0))),(4,I k)],[.row 1 (part xs zTrack k)]⟩:St)) (xs.length) ⟨(fun k:Nat=>(⟨_,[(0,L xs),(3,.o (.c (.ref 0))),(4,I k)],[.row 1 (part xs zTrack k)]⟩:St)) 0,⟨0,by omega,trivial,J⟩,V0 [0] J (Zy (Y2 xs _)) (.c J (.c J (.c J (.nil))))⟩ ?_
 rintro m_A _ ⟨k,hk_A,hp_A,rfl⟩
 refine Wz [18,87] ?_
 refine Xb J (fun h => ?_) (fun h => ?_)
 ·have h3:k<xs.length:=by have:=Gqd h; omega
  have hat:=Yd h3
  have hz:=part_at xs zTrack h3
  have hpl:(k:Int)<(part xs zTrack k).length:=by rw[part_len xs _ (by omega)]; omega
  have hwt:Enc.wt xs[k]≤wts xs:=wts_le xs _ (Gqi h3)
  have hc:=to_Track xs[k] (by omega)
  refine Wz [16,81,0,0,119] ?_;refine M1 (Zc J J (hc) J J J) J J ?_;refine Wz [230,206,52,135] ?_
  exact⟨xs.length-(k+1),by omega,(fun k:Nat=>(⟨_,[(0,L xs),(3,.o (.c (.ref 0))),(4,I k)],[.row 1 (part xs zTrack k)]⟩:St)) (k+1),⟨k+1,by omega,trivial,J⟩,V0 [0] J (Zy (part_set xs zTrack h3 _ (by rfl) (by rfl)).symm) (.c J (.c J (.c J (.nil))))⟩
 ·have h3:¬((k:Int)<(els xs).length):=Gqf h
  refine Wz [111] ?_
  exact V3 J (V4 [0] J (Zy (part_all xs _ (by omega)).symm) J)
theorem to_SaveS (xs:List TSave) (hg:Enc.wt xs≤1048576):Con Tryz.prog 93 [] [al xs] [.row 2 (els xs)] (.o (.c (.ref 0))):=by
 have hlen:=Ye xs
 have hw:Enc.wt xs=xs.length+wts xs:=rfl
 refine Con.of Tryz.func93 J Tryz.ntmps93 J (fun E => ?_)
 refine Wz [34,6,12,267,2,42] ?_;refine Xj (fun m st=>∃ k:Nat,k+m=xs.length∧(True)∧st=(⟨_,[(0,L xs),(3,.o (.c (.ref 0))),(4,I k)],[.row 2 (part xs zSave k)]⟩:St)) (xs.length) ⟨(fun k:Nat=>(⟨_,[(0,L xs),(3,.o (.c (.ref 0))),(4,I k)],[.row 2 (part xs zSave k)]⟩:St)) 0,⟨0,by omega,trivial,J⟩,V0 [0] J (Zy (Y2 xs _)) (.c J (.c J (.c J (.nil))))⟩ ?_
 rintro m_A _ ⟨k,hk_A,hp_A,rfl⟩
 refine Wz [18,87] ?_
 refine Xb J (fun h => ?_) (fun h => ?_)
 ·have h3:k<xs.length:=by have:=Gqd h; omega
  have hat:=Yd h3
  have hz:=part_at xs zSave h3
  have hpl:(k:Int)<(part xs zSave k).length:=by rw[part_len xs _ (by omega)]; omega
  have hwt:Enc.wt xs[k]≤wts xs:=wts_le xs _ (Gqi h3)
  have hc:=to_Save xs[k] (by omega)
  refine Wz [16,81,0,0,119] ?_;refine M1 (Zc J J (hc) J J J) J J ?_;refine Wz [230,206,52,135] ?_
  exact⟨xs.length-(k+1),by omega,(fun k:Nat=>(⟨_,[(0,L xs),(3,.o (.c (.ref 0))),(4,I k)],[.row 2 (part xs zSave k)]⟩:St)) (k+1),⟨k+1,by omega,trivial,J⟩,V0 [0] J (Zy (part_set xs zSave h3 _ (by rfl) (by rfl)).symm) (.c J (.c J (.c J (.nil))))⟩
 ·have h3:¬((k:Int)<(els xs).length):=Gqf h
  refine Wz [111] ?_
  exact V3 J (V4 [0] J (Zy (part_all xs _ (by omega)).symm) J)
theorem eq_TrackS (xs ys:List TTrack) (hn:Enc.gd xs):Con Tryz.prog 97 [] [al xs,al ys] [] (B (decide (xs=ys))):=by
 have hn1:=hn.1
 have hlx:=Ye xs
 have hly:=Ye ys
 by_cases hl:xs.length=ys.length
 ·have hb:decide (((els xs).length:Int)≠((els ys).length:Int))=false:=by rw[hlx,hly,hl]; simp
  refine Con.of Tryz.func97 J Tryz.ntmps97 J (fun E => ?_)
  refine Wz [74,112,12,58,47,42] ?_;refine Xj (fun m st=>∃ k:Nat,k+m=xs.length∧(xs.take k=ys.take k)∧st=(⟨_,[(0,L xs),(1,L ys),(5,I k)],[]⟩:St)) (xs.length) ⟨_,⟨0,by omega,by simp,J⟩,Ua []⟩ ?_
  rintro m_A _ ⟨k,hk_A,hp_A,rfl⟩
  refine Wz [18,87] ?_
  refine Xb J (fun h => ?_) (fun h => ?_)
  ·have h3:k<xs.length:=by have:=Gqd h; omega
   have h4:k<ys.length:=by omega
   have hat:=Yd h3
   have hat2:=Yd h4
   have hc:=eq_Track xs[k] ys[k] (hn.2 _ (Gqi h3))
   by_cases he:xs[k]=ys[k]
   ·rw[Gqb he] at hc
    refine Wz [108,205,85,186,85,186] ?_;refine Ki (Qj J J (hc) J) J ?_;refine Wz [136,9,80] ?_
    exact⟨xs.length-(k+1),by omega,_,⟨k+1,by omega,eq_next h3 h4 hp_A he,J⟩,Ua []⟩
   ·rw[Gqa he] at hc
    refine Wz [108,205,85,186,85,186] ?_;refine Ki (Qj J J (hc) J) J ?_;refine Wz [136,9,97,40] ?_
    exact V3 J (V4 [] J J (Xk (eq_ne h3 h4 he).symm))
  ·have h3:¬((k:Int)<(els xs).length):=Gqf h
   refine Wz [29,98] ?_
   exact V3 J (V4 [] J J (Xk (eq_all (by omega) hl hp_A).symm))
 ·have hb:decide (((els xs).length:Int)≠((els ys).length:Int))=true:=by rw[hlx,hly]; simp; omega
  refine Con.of Tryz.func97 J Tryz.ntmps97 J (fun E => ?_)
  refine Wz [74,112,12,92] ?_
  exact V3 J (V4 [] J J (Xk (eq_len hl).symm))
theorem eq_SaveS (xs ys:List TSave) (hn:Enc.gd xs):Con Tryz.prog 100 [] [al xs,al ys] [] (B (decide (xs=ys))):=by
 have hn1:=hn.1
 have hlx:=Ye xs
 have hly:=Ye ys
 by_cases hl:xs.length=ys.length
 ·have hb:decide (((els xs).length:Int)≠((els ys).length:Int))=false:=by rw[hlx,hly,hl]; simp
  refine Con.of Tryz.func100 J Tryz.ntmps100 J (fun E => ?_)
  refine Wz [74,112,12,58,47,42] ?_;refine Xj (fun m st=>∃ k:Nat,k+m=xs.length∧(xs.take k=ys.take k)∧st=(⟨_,[(0,L xs),(1,L ys),(5,I k)],[]⟩:St)) (xs.length) ⟨_,⟨0,by omega,by simp,J⟩,Ua []⟩ ?_
  rintro m_A _ ⟨k,hk_A,hp_A,rfl⟩
  refine Wz [18,87] ?_
  refine Xb J (fun h => ?_) (fun h => ?_)
  ·have h3:k<xs.length:=by have:=Gqd h; omega
   have h4:k<ys.length:=by omega
   have hat:=Yd h3
   have hat2:=Yd h4
   have hc:=eq_Save xs[k] ys[k] (hn.2 _ (Gqi h3))
   by_cases he:xs[k]=ys[k]
   ·rw[Gqb he] at hc
    refine Wz [108,205,85,186,85,186] ?_;refine Ki (Qj J J (hc) J) J ?_;refine Wz [136,9,80] ?_
    exact⟨xs.length-(k+1),by omega,_,⟨k+1,by omega,eq_next h3 h4 hp_A he,J⟩,Ua []⟩
   ·rw[Gqa he] at hc
    refine Wz [108,205,85,186,85,186] ?_;refine Ki (Qj J J (hc) J) J ?_;refine Wz [136,9,97,40] ?_
    exact V3 J (V4 [] J J (Xk (eq_ne h3 h4 he).symm))
  ·have h3:¬((k:Int)<(els xs).length):=Gqf h
   refine Wz [29,98] ?_
   exact V3 J (V4 [] J J (Xk (eq_all (by omega) hl hp_A).symm))
 ·have hb:decide (((els xs).length:Int)≠((els ys).length:Int))=true:=by rw[hlx,hly]; simp; omega
  refine Con.of Tryz.func100 J Tryz.ntmps100 J (fun E => ?_)
  refine Wz [74,112,12,92] ?_
  exact V3 J (V4 [] J J (Xk (eq_len hl).symm))
end
section
open Go.RowKit

theorem OW.take {w:World} {k:Nat} {es:List (List T)} {v:Value} {fp:List Nat} (h:OW w (.sl k es) v fp) (hnd:fp.Nodup) {n:Nat} (hn:n≤es.length):∃ A c fp',v = .slice A es.length c∧es.length≤c∧OW w (.sl k (es.take n)) (.slice (if c=0 then A else A.map (·.add (0*k))) (n-0) (c-0)) fp'∧(∀ b∈fp',b∈fp)∧fp'.Nodup:=by
 cases h with
 |nil =>
  have:n=0:=by simpa using hn
  subst this
  exact⟨none,0,[],J,Gqk _,by simpa using OW.nil (w:=w) k,by simp,by simp⟩
 | sl _ b o _ c tid cur fz val fps hg hz hc hm hs hp hk hf hfk hv ht =>
  have hA:(if c=0 then some (⟨b,o,none⟩:Addr) else (some (⟨b,o,none⟩:Addr)).map (·.add (0*k)))=some ⟨b,o,none⟩:=by
   split
   ·rfl
   ·simp[Addr.add]
  have hl:(es.take n).length=n:=by simp; omega
  have hfl:fps.flatten.flatten=(fps.take n).flatten.flatten++(fps.drop n).flatten.flatten:=by
   rw[←Gqo,←Gqo,Gxi]
  refine⟨some ⟨b,o,none⟩,c,b::(fps.take n).flatten.flatten,J,hc,?_,fun x hx => ?_,?_⟩
  ·rw[hA]
   have h1:=OW.sl (w:=w) (es.take n) b o k c tid cur fz val (fps.take n) hg hz (by omega) hm hs hp (fun e he=>hk e (Gxh he)) (by simp[hf]) (fun f hf'=>hfk f (Gxh hf'))
    (fun i j hi hj=>hv i j (by omega) hj) (fun i j e t fs f g1 g2 g3 g4=>by
     have hi:=Yo g1
     rw[hl] at hi
     rw[Gxc,if_pos hi] at g1 g3
     exact ht i j e t fs f g1 g2 g3 g4)
   rw[hl] at h1
   simpa using h1
  ·rcases List.mem_cons.1 hx with rfl | hx
   ·simp
   ·exact Gq4 _ (by rw[hfl]; exact List.mem_append_left _ hx)
  ·rw[hfl,←List.cons_append] at hnd
   exact (List.nodup_append.1 hnd).1

def V1.tohd (p n:Nat):V1→V1
 | .hd q m=>match Nat.beq q p with
  |true=>match Nat.beq m n with
   |true => .ref p
   |false => .un
  |false => .hd q m
 |x=>x.kill [p]
theorem Wk.head0 {st:St} {p k:Nat} {es:List (List T)} (n:Nat) (hp:st.objs[p]? = some (.row k es)) (hn:n≤es.length):Wk st ⟨st.n,st.tmps.map fun e=>(e.1,e.2.mapk (V1.tohd p n)),(st.objs.map (Ob.mapk (V1.tohd p n))).set p (.row k (es.take n))⟩:=by
 intro w H F a h1
 obtain⟨v,fp,e1,e2⟩:=h1.ow hp
 have hnd:=h1.ok.nodup p
 rw[e1] at hnd
 obtain⟨A,c,fp'',hvA,hc,h3,h5,h4⟩:=e2.take hnd hn
 have hA:(if c=0 then A else A.map (·.add (0*k)))=A:=by
  split
  ·rfl
  ·cases A <;> simp[Addr.add]
 rw[hA,Gxw,Gxw] at h3
 have hkeep:Keeps w w fp:=⟨rfl,rfl,rfl,Gqk _,fun _ _ _=>rfl⟩
 obtain⟨hok,htn⟩:=h1.ok.turn (p:=p) (fp:=fp) (by rw[e1]; rfl) hkeep (.ow (.sl k (es.take n)) _ fp'') h3 h4 trivial (fun b hb => .inl (h5 b hb))
 have hone:∀ x v,R1 w H F x v→R1 w (H.put p (.ow (.sl k (es.take n)) (.slice A n c) fp'')) F (V1.tohd p n x) v:=fun x u hx=>by
  cases x with
  | hd q m =>
   simp only[V1.tohd]
   obtain⟨A',m',c',x,fp',e3,rfl⟩:=hx
   split
   ·rename_i hq
    have hqp:=Gq8 hq
    subst hqp
    split
    ·rename_i hm
     have:=Gq8 hm
     subst this
     rw[e1] at e3
     simp only[Pc.ow.injEq] at e3
     obtain⟨_,e4,_⟩:=e3
     rw[hvA] at e4
     simp only[Value.slice.injEq] at e4
     obtain⟨rfl,_,rfl⟩:=e4
     exact⟨_,_,Hs.put_self _ _ _⟩
    ·trivial
   ·rename_i hq
    have hqp:q≠p:=fun e=>by rw[e,show Nat.beq p p=true from Gxn p] at hq; cases hq
    exact⟨A',m',c',x,fp',by rw[Hs.put_ne _ _ hqp,e3],J⟩
  |_=>exact R1.killed h1.ok htn hx
 obtain⟨hplt,_⟩:=Gqm.1 hp
 refine⟨_,h1.mapk (V1.tohd p n) hone hok ((st.objs.map (Ob.mapk (V1.tohd p n))).set p (.row k (es.take n))) (fun q => ?_),fun q b hb => ?_,htn.gh⟩
 ·by_cases hqp:q=p
  ·subst hqp
   rw[Yn (x := .row k (es.take n)) (by simp[hplt])]
   exact⟨_,_,Hs.put_self _ _ _⟩
  ·rw[Gqc,Gxb (Ne.symm hqp),Gqh]
   have h2:=h1.obs q
   rw[Gqc] at h2
   have h3:H.put p (.ow (.sl k (es.take n)) (.slice A n c) fp'') q=H q:=Hs.put_ne _ _ hqp
   cases ho:st.objs[q]? with
   |none=>rw[ho] at h2; exact h3.trans h2
   |some ob=>rw[ho] at h2; exact RB.mapk hone h3 h2
 ·by_cases hqp:q=p
  ·subst hqp
   rw[Hs.put_self] at hb
   exact⟨q,by rw[e1]; exact h5 b hb⟩
  ·exact⟨q,by rw[←Hs.put_ne H _ hqp]; exact hb⟩
def allP {α:Type} (f:α→Prop):List α→Prop
 | []=>True
 |x::l=>f x∧allP f l
theorem X6 {α β:Type} {f:α→Prop} {g h:α→β} (hgh:∀ x,f x→g x=h x):∀ {l:List α},allP f l→l.map g=l.map h
 | [],_=>rfl
 |x::l,hl=>by rw[List.map_cons,List.map_cons,hgh x hl.1,X6 hgh hl.2]
def V1.hdok (p n:Nat):V1→Prop
 | .hd q m=>match Nat.beq q p with
  |true=>m=n
  |false=>True
 |_=>True
def V2.hdok (p n:Nat):V2→Prop
 | .c x=>x.hdok p n
 | .ag xs=>allP (V1.hdok p n) xs
def V.hdok (p n:Nat):V→Prop
 | .o x=>x.hdok p n
 | .tu xs=>allP (V2.hdok p n) xs
 | .iff _ x=>x.hdok p n
def Ob.hdok (p n:Nat):Ob→Prop
 | .box cs=>allP (V1.hdok p n) cs
 | .gh _ x=>x.hdok p n
 |_=>True
def V1.tohe (p:Nat):V1→V1
 | .hd q m=>match Nat.beq q p with
  |true => .ref p
  |false => .hd q m
 |x=>x.kill [p]
theorem V1.tohe_eq {p n:Nat} (x:V1) (h:x.hdok p n):x.tohd p n=x.tohe p:=by
 cases x with
 | hd q m =>
  simp only[V1.tohd,V1.tohe]
  cases hq:Nat.beq q p with
  |true =>
   simp only[V1.hdok,hq] at h
   subst h
   simp only[show Nat.beq m m=true from Gxn m]
  |false=>rfl
 |_=>rfl
theorem V2.tohe_eq {p n:Nat} (x:V2) (h:x.hdok p n):x.mapk (V1.tohd p n)=x.mapk (V1.tohe p):=by
 cases x with
 |c x=>exact congrArg V2.c (V1.tohe_eq x h)
 |ag xs=>exact congrArg V2.ag (X6 (fun x hx=>V1.tohe_eq x hx) h)
theorem V.tohe_eq {p n:Nat} (x:V) (h:x.hdok p n):x.mapk (V1.tohd p n)=x.mapk (V1.tohe p):=by
 cases x with
 |o x=>exact congrArg V.o (V2.tohe_eq x h)
 |tu xs=>exact congrArg V.tu (X6 (fun x hx=>V2.tohe_eq x hx) h)
 |iff cs x=>exact congrArg (V.iff cs) (V2.tohe_eq x h)
theorem Ob.tohe_eq {p n:Nat} (x:Ob) (h:x.hdok p n):x.mapk (V1.tohd p n)=x.mapk (V1.tohe p):=by
 cases x with
 |box cs=>exact congrArg Ob.box (X6 (fun x hx=>V1.tohe_eq x hx) h)
 |gh i x=>exact congrArg (Ob.gh i) (V2.tohe_eq x h)
 |_=>rfl
theorem Wk.head {st:St} {p k:Nat} {es:List (List T)} (n:Nat) (hp:st.objs[p]? = some (.row k es)) (hn:n≤es.length) (ht:allP (fun e:Nat×V=>e.2.hdok p n) st.tmps) (ho:allP (Ob.hdok p n) st.objs):Wk st ⟨st.n,st.tmps.map fun e=>(e.1,e.2.mapk (V1.tohe p)),(st.objs.map (Ob.mapk (V1.tohe p))).set p (.row k (es.take n))⟩:=by
 have h:=Wk.head0 n hp hn
 rw[X6 (g:=fun e:Nat×V=>(e.1,e.2.mapk (V1.tohd p n))) (h:=fun e:Nat×V=>(e.1,e.2.mapk (V1.tohe p))) (fun e he=>by rw[V.tohe_eq e.2 he]) ht,X6 (fun x hx=>Ob.tohe_eq x hx) ho] at h
 exact h
section
variable {P:Program} {E:Env} {ops:Array Oper} {o:Oper} {st:St} {rest:List Oper} {QQ:Exit→St→Prop} {t:TypeId} {y u:Operand} {rs:List Nat} {j:Int} {m:Nat}
theorem q_hd {p kk:Nat} {es:List (List T)} {e:TypeId} {zs:List Value} {by_:Nat} [hm:TyMake P t e zs by_] (ho:o.op = .slice t y none (some u) none) (hg:o.guard=none) (hy:st.ev y = .o (.c (.ref p))) (hp:st.objs[p]? = some (.row kk es)) (hu:st.ev u = .o (.c (.rd rs (.v (.int .i64 j))))) (hkz:kk=zs.length) (h0:0≤j∧j≤es.length):Qt P ops o st (.o (.c (.hd p j.toNat))) [] m :=
 .pure hg fun a w H F h1=>by
  obtain⟨v,fp,e1,e2⟩:=h1.ow hp
  obtain⟨x',fp',e3⟩:=h1.v1 hy
  rw[e1] at e3
  simp only[Pc.ow.injEq] at e3
  obtain⟨_,hv,_⟩:=e3
  have hnd:=h1.ok.nodup p
  rw[e1] at hnd
  obtain⟨A,c,fp'',hvA,hc,h3,h5,h4⟩:=e2.take hnd (n:=j.toNat) (by omega)
  have hA:(if c=0 then A else A.map (·.add (0*kk)))=A:=by
   split
   ·rfl
   ·cases A <;> simp[Addr.add]
  have hrun:=run_slice (P:=P) (w:=w) (t:=t) (e:=e) (zs:=zs) (by_:=by_) (A:=A) (m:=es.length) (c:=c) none (some j) 0 j.toNat rfl ⟨h0.1,rfl⟩ (Gxf _) (by omega)
  rw[←hkz,hA,Gxw,Gxw] at hrun
  refine⟨.slice A j.toNat c,?_,?_⟩
  ·have hu1:=h1.plain hu
   have hvy:a.eval y = .slice A es.length c:=by rw[←hv,hvA]
   unfold execOp
   simp only[ho,Option.map_none,Gqs,hu1,hvy,Sem.run_bind]
   simp only[Option.map_none,Gqs] at hrun
   rw[hrun]
   rfl
  ·exact⟨A,es.length,c,_,_,by rw[e1,hvA],rfl⟩
end
section
variable {P:Program} {E:Env} {ops:Array Oper} {o:Oper} {st:St} {rest:List Oper} {QQ:Exit→St→Prop} {t:TypeId} {y u:Operand} {rs:List Nat} {j:Int}
end
end
section
open Go.RowKit

theorem Wk.nilbox {st:St} {p i:Nat} (k:Nat) {cs:List V1} {qs:List Nat} (hp:st.objs[p]? = some (.box cs)) (hc:cs[i]? = some (.rd qs (.v (.slice none 0 0)))):Wk st ⟨st.n,st.tmps,(st.objs.set p (.box (cs.set i (.ref st.objs.length)))) ++ [.row k []]⟩:=by
 intro w H F a h
 have hnil:H st.objs.length = .nil:=by
  have:=h.obs st.objs.length
  simpa[Gqc,RB] using this
 have hlt:=Yo hp
 obtain⟨H',hH'⟩:∃ H':Hs,H'=H.put st.objs.length (.ow (.sl k []) (.slice none 0 0) []):=⟨_,rfl⟩
 have hin:H' st.objs.length = .ow (.sl k []) (.slice none 0 0) []:=by rw[hH']; exact Hs.put_self _ _ _
 have hout:∀ q,q≠st.objs.length→H' q=H q:=fun q hq=>by rw[hH']; exact Hs.put_ne _ _ hq
 have hfp:∀ q,(H' q).fp=(H q).fp:=fun q=>by
  by_cases e:q=st.objs.length
  ·rw[e,hin,hnil]; rfl
  ·rw[hout q e]
 have hgh:∀ q i v,H' q = .gh i v→∃ r,H r = .gh i v:=fun q i v hq=>by
  by_cases e:q=st.objs.length
  ·rw[e,hin] at hq; cases hq
  ·exact⟨q,by rw[←hout q e]; exact hq⟩
 have hgr:Grow w H F w H' F:=⟨Below.refl _ _,fun q hq=>hout q fun e=>hq (by rw[e]; exact hnil),fun _ h=>h,fun _ h => .inl h,fun q hq b hb=>by rw[hfp,hq] at hb; simp[Pc.fp] at hb,hgh⟩
 refine⟨H',⟨⟨fun q => ?_,fun q=>by rw[hfp]; exact h.ok.nodup q,fun q r b h1 h2=>by rw[hfp] at h1 h2; exact h.ok.disj q r b h1 h2,fun q b h1=>by rw[hfp] at h1; exact h.ok.free q b h1,h.ok.flt⟩,fun q => ?_,fun e=>hgr.rv (h.tmp e),h.size,h.defers⟩,fun q b hb=>⟨q,by rw[←hfp]; exact hb⟩,hgh⟩
 ·by_cases e:q=st.objs.length
  ·rw[e,hin]; exact OW.nil _
  ·rw[hout q e]; exact h.ok.says q
 ·show RB w H' F q ((st.objs.set p (.box (cs.set i (.ref st.objs.length))) ++ [Ob.row k []]).getD q .gone)
  by_cases e:q=st.objs.length
  ·rw[show (st.objs.set p (.box (cs.set i (.ref st.objs.length))) ++ [Ob.row k []]).getD q .gone = .row k [] by simp[Gqc,e]]
   exact⟨_,_,by rw[e]; exact hin⟩
  ·rcases Gqn q st.objs.length with h1 | h1
   ·by_cases hqp:q=p
    ·subst hqp
     rw[show (st.objs.set q (.box (cs.set i (.ref st.objs.length))) ++ [Ob.row k []]).getD q .gone = .box (cs.set i (.ref st.objs.length)) by simp[Gqc,Gqv,h1]]
     obtain⟨g,t,vs,e1,e2,e3,e4⟩:=h.bx hp
     have hb:=h.obs q
     rw[Yn hp] at hb
     obtain⟨g,t,vs,k1,k2,k3⟩:=hb
     refine⟨g,t,vs,(hout q e).trans k1,by simpa using k2,fun j c u h4 h5 => ?_⟩
     rw[List.getElem?_set] at h4
     split at h4
     ·rename_i hij
      subst hij
      split at h4
      ·simp only[Option.some.injEq] at h4
       subst h4
       have h6:=k3 i _ u hc h5
       obtain⟨h7,_⟩:=RO.plain h6.1
       exact⟨⟨_,_,by rw[hin,←h7]⟩,h6.2⟩
      ·cases h4
     ·have h6:=k3 j c u h4 h5
      exact⟨hgr.r1 h6.1,h6.2⟩
    ·rw[show (st.objs.set p (.box (cs.set i (.ref st.objs.length))) ++ [Ob.row k []]).getD q .gone=st.objs.getD q .gone by
      rw[Gqc,Gqv (by simpa using h1),Gxb (Ne.symm hqp),Gqc]]
     by_cases hn:H q = .nil
     ·have h2:=h.obs q
      have h3:H' q = .nil:=(hout q e).trans hn
      cases ho:st.objs.getD q .gone with
      |gone=>exact h3
      |hole=>trivial
      |box cs=>rw[ho] at h2; obtain⟨a,t,vs,e,_⟩:=h2; rw[hn] at e; cases e
      |row k es=>rw[ho] at h2; obtain⟨v,fp,e⟩:=h2; rw[hn] at e; cases e
      |gh i x=>rw[ho] at h2; obtain⟨v,e,_⟩:=h2; rw[hn] at e; cases e
      |shr es=>rw[ho] at h2; obtain⟨us,v,fp,e,_⟩:=h2; rw[hn] at e; cases e
      |bl=>rw[ho] at h2; obtain⟨v,fp,e⟩:=h2; rw[hn] at e; cases e
     ·exact hgr.rb hn (h.obs q)
   ·rw[show (st.objs.set p (.box (cs.set i (.ref st.objs.length))) ++ [Ob.row k []]).getD q .gone=Ob.gone by
     rw[Gqc,List.getElem?_eq_none (by simp; omega)]; rfl]
    refine (hout q e).trans ?_
    have:=h.obs q
    simpa[Gqc,RB,h1] using this
section
variable {P:Program} {ops:Array Oper} {o:Oper} {st:St} {m:Nat} {t e:TypeId} {y z:Operand} {zs:List Value} {by_:Nat}
theorem q_bslicez [hm:TyMake P t e zs by_] (ho:o.op = .buildSlice t 0 #[]) (hg:o.guard=none) (hz0:zs.isEmpty=false):Qt P ops o st (.o (.c (.sb m 0 zs.length))) [.box []] m :=
 .new hg fun a w H F hr hn=>by
  obtain⟨inf,hi,hzz⟩:=Option.map_eq_some_iff.1 hm.info
  refine⟨.slice (some ⟨w.heap.size,0,none⟩) 0 0,w.alloc (.cells #[] e),.box w.heap.size e [],?_,(Below.refl _ _).alloc (Gqk _) _,heap_alloc_new w _,by simp[Pc.fp,Pc.ng],fun b hb=>by simp[Pc.fp] at hb; omega,fun H' hgr hq=>⟨⟨_,_,_,hq,J,fun i c u h4 h5=>by simp at h4⟩,_,_,_,hq,by simp,Gxf _,J⟩⟩
  unfold execOp
  simp[ho,Instr.buildSlice,run_underlying hm.slice,Go.sizeOf,typeInfo,hi,Instr.fill,newRow]
  rw[show (Array.range 0).map (fun _:Nat=>(default:Value))=#[] from Array.eq_empty_of_size_eq_zero (by simp)]
theorem run_append_z {tx ty:TypeId} [hm:TyMake P t e zs by_] {w:World} (A:Option Addr) {x:Value} {n:Nat} {news:List Value} (hsrc:Src P zs.length tx x n news w) (hn:0<n) (hb:n*by_≤140737488355328) (h63:n≤9223372036854775807) :
  (Builtin.append_ #[t,tx] ty #[.slice A 0 0,x]).run P w=(Builtin.append_ #[t,tx] ty #[.slice none 0 0,x]).run P w:=by
 obtain⟨i,hi,hzz⟩:=Option.map_eq_some_iff.1 hm.info
 simp only[Prod.mk.injEq] at hzz
 obtain⟨hz1,hs,hb1⟩:=hzz
 obtain⟨z,hz2,hz3⟩:=Option.map_eq_some_iff.1 hz1
 have hsrc:Src P i.size tx x n news w:=by rw[hs]; exact hsrc
 have h0:((0+n:Nat):Int)≤9223372036854775807:=by omega
 rw[run_append_grow_src (P:=P) (w:=w) t tx ty e i z hm.slice hi hz2 A 0 0 [] (by cases A <;> simp[Builtin.firstCells,loadCells,loadCellsFrom]) x n news hsrc (by omega) h0 (growslice_fits (by omega) (by rw[hb1]; simpa using hb)),
  run_append_grow_src (P:=P) (w:=w) t tx ty e i z hm.slice hi hz2 none 0 0 [] (by simp[Builtin.firstCells]) x n news hsrc (by omega) h0 (growslice_fits (by omega) (by rw[hb1]; simpa using hb))]
theorem src_any [hm:TyMake P t e zs by_] {w:World} {H:Hs} {F:Nat→Prop} {a:Act} (h:R0 w H F st a) {es':List (List T)} {x:V1} {u:Value} {kk:Nat} (hkz:kk=zs.length) (hz0:zs ≠ []) (hx:R1 w H F x u) (hs:srcOf st.objs x=some es') (hpl:plainT es') (hkk:∀ e∈es',e.length=kk):Src P kk t u es'.length (flatV (plainV' es') es'.length kk) w:=by
 obtain⟨A,c,rfl,hsrc⟩:=src_form h hx hs
 have hcell:∀ i j (hi:i<es'.length) (hj:j<kk),∃ b o',A=some ⟨b,o',none⟩∧w.cell? ⟨b,o'+i*kk+j,none⟩=some (plainV' es' i j)∧(plainV' es' i j).oneCell'=true:=by
  intro i j hi hj
  have h6:=Gqe hi
  obtain⟨b,o',k,hA,hp,hk,hc⟩:=hsrc i _ h6
  have h7:k=kk:=by rw[←hk,hkk _ (Gqi hi)]
  subst h7
  have h8:j<(es'[i]).length:=by omega
  obtain⟨u',h9,h10⟩:=hc j _ (Gqe h8)
  obtain⟨u'',h11⟩:=hpl _ (Gqi hi) _ (Gqi h8)
  rw[h11] at h10
  obtain⟨rfl,h12⟩:=RO.plain h10
  rw[plainV'_at h6 (by rw[Gqe h8,h11])]
  exact⟨b,o',hA,h9,h12⟩
 refine src_slice (zs:=zs) es' (plainV' es') A c (fun hne => ?_) fun i j hi hj=>by obtain⟨_,_,_,_,h⟩:=hcell i j hi hj; exact h
 have hl:0<es'.length:=Gxo.2 hne
 have hk0:0<kk:=by rw[hkz]; exact Gxo.2 hz0
 obtain⟨b,o',hA,_⟩:=hcell 0 0 hl hk0
 refine⟨b,o',hA,fun i j hi hj => ?_⟩
 obtain⟨b',o'',hA',h1,_⟩:=hcell i j hi hj
 rw[hA] at hA'
 simp only[Option.some.injEq,Addr.mk.injEq] at hA'
 obtain⟨rfl,rfl,_⟩:=hA'
 exact h1

theorem q_appz {ps:List Nat} {q kk:Nat} {es':List (List T)} [hm:TyMake P t e zs by_] (ho:o.op = .call { callee := .builtin .append,args:=#[y,z],argTypes:=#[t,t] }) (hg:o.guard=none) (hy:st.ev y = .o (.c (.sb q 0 kk))) (hz:st.ev z = .o (.c (.rd ps (.sl kk es')))) (hkz:kk=zs.length) (hz0:zs.isEmpty=false)
  (hpl:plainT es') (hkk:∀ e∈es',e.length=kk) (hpos:0<es'.length) (hb:es'.length*by_≤140737488355328) (h63:es'.length≤9223372036854775807):Qt P ops o st (.o (.c (.ref m))) [.row kk es'] m :=
 .new hg fun a w H F hr hn=>by
  have hzn:zs ≠ []:=by intro e; rw[e] at hz0; cases hz0
  subst hkz
  obtain⟨g,tt,vs,b1,b2,b3,b4⟩:=hr.v1 hy
  obtain⟨w1,hw1⟩:∃ w1,w1=w:=⟨_,rfl⟩
  have hs:srcOf st.objs (.rd ps (.sl zs.length es'))=some es':=rfl
  obtain⟨v',w',fp'',hr1,h3,h4,h5,h6⟩:=append_plain (P:=P) (o:=o) (t:=t) (kk:=zs.length) (es := []) hr (OW.nil _) List.nodup_nil rfl hzn (hr.v1 hz) hs hpl hkk (by simpa using hb) (by simpa using h63)
  have hbel:Below w.heap.size w w':=⟨h6.os,h6.tape,h6.output,h6.size,fun b hb=>h6.block b hb (by simp)⟩
  refine⟨v',w',.ow (.sl zs.length es') v' fp'',?_,hbel,h3,⟨h4,trivial⟩,fun b hb=>(h5 b hb).resolve_left (by simp),fun H' hgr hq=>⟨⟨_,_,hq⟩,_,_,hq⟩⟩
  refine exec_append ho ?_
  have h7:=src_any (P:=P) (t:=t) (e:=e) (by_:=by_) (kk:=zs.length) hr rfl hzn (hr.v1 hz) hs hpl hkk
  rw[b4,run_append_z (P:=P) (some ⟨g,0,none⟩) h7 hpos hb h63]
  exact hr1
end
end
section
open Go.RowKit

def inR (n lo hi:Int):Bool:=decide (lo≤n)&&decide (n≤hi)
theorem Yr {n lo hi:Int}:inR n lo hi=true↔lo≤n∧n≤hi:=by simp[inR]
theorem Xu (n lo hi:Int):Con Tryz.prog 40 [] [ai n,ai lo,ai hi] [] (B (inR n lo hi)):=by
 refine Con.of Tryz.func40 J Tryz.ntmps40 J (fun E => ?_)
 refine Wz [34,23,258,0,181] ?_;refine zx (Qt.grdT J J J (.hit .stop) (fun hgrd=>Qa J J J)) J ?_;refine zx (Qt.grdT J J J (.hit (.hit .stop)) (fun hgrd=>q_leq J J J J)) J ?_;refine Wz [69,48] ?_
 exact V3 J (V4 [] J J J)
theorem Xz (n lo hi:Int):Con Tryz.prog 164 [] [ai n,ai lo,ai hi] [] (B (inR n lo hi)):=by
 refine Con.of Tryz.func164 J Tryz.ntmps164 J (fun E => ?_)
 refine Wz [34,23,258,0,181] ?_;refine zx (Qt.grdT J J J (.hit .stop) (fun hgrd=>Qa J J J)) J ?_;refine zx (Qt.grdT J J J (.hit (.hit .stop)) (fun hgrd=>q_leq J J J J)) J ?_;refine Wz [69,48] ?_
 exact V3 J (V4 [] J J J)

section
variable {α:Type} {p:α→Bool} {xs:List α} {k:Nat}
theorem X7 (h:(xs.take k).all p=true) (hk:k<xs.length) (hp:p xs[k]=true):(xs.take (k+1)).all p=true:=by
 rw[Gq2 hk,List.all_append,h]
 simp[hp]
theorem all_no (hk:k<xs.length) (hp:p xs[k]=false):xs.all p=false:=by
 rw[List.all_eq_false]
 exact⟨_,Gqi hk,by simp[hp]⟩
theorem all_end (h:(xs.take k).all p=true) (hk:xs.length≤k):xs.all p=true:=by rwa[Gq3 hk] at h
end
def inOk (xs:List Int):Bool:=xs.all fun n=>inR n 0 15
def rowOk (xs:List Int) (n:Int):Bool:=decide ((xs.length:Int)=n)&&inOk xs

theorem I_inputsOk (xs:List Int) (hn:Enc.gd xs):Con Tryz.prog 142 [] [al xs] [] (B (inOk xs)):=by
 have hn1:=hn.1
 have hlx:=Ye xs
 refine Con.of Tryz.func142 J Tryz.ntmps142 J (fun E => ?_)
 refine Wz [74,12,140,64] ?_;refine Xj (fun m st=>∃ k:Nat,k+m=xs.length∧((xs.take k).all (fun n=>inR n 0 15)=true)∧st=(⟨_,[(5,L xs),(6,I (els xs).length),(7,I k)],[]⟩:St)) (xs.length) ⟨_,⟨0,by omega,by simp,J⟩,Ua []⟩ ?_
 rintro m_A _ ⟨k,hk_A,hp_A,rfl⟩
 refine Wz [1,67,17] ?_
 refine Xb J (fun h => ?_) (fun h => ?_)
 ·have h3:k<xs.length:=by have:=Gqd h; omega
  have hat:=Yd h3
  refine Wz [16,1,63,73] ?_;refine zx (Qj J J (Xu xs[k] 0 15) J) J ?_;refine Wz [15,3] ?_
  refine Xb J (fun h4 => ?_) (fun h4 => ?_)
  ·refine Wz [123,200] ?_
   refine Wz [83] ?_
   exact V3 J (V4 [] J J (Xk (all_no h3 (by simpa using h4)).symm))
  ·refine Wz [144,150,303,0,52] ?_
   refine Q0 ?_
   exact⟨xs.length-(k+1),by omega,_,⟨k+1,by omega,X7 hp_A h3 (by simpa using h4),J⟩,Ua []⟩
 ·have h3:¬((k:Int)<(els xs).length):=Gqf h
  refine Wz [29,98] ?_
  exact V3 J (V4 [] J J (Xk (all_end hp_A (by omega)).symm))
theorem I_rowOk (xs:List Int) (n:Int) (hn:Enc.gd xs):Con Tryz.prog 123 [] [al xs,ai n] [] (B (rowOk xs n)):=by
 have hlx:=Ye xs
 refine Con.of Tryz.func123 J Tryz.ntmps123 J (fun E => ?_)
 refine Wz [34,6,112,201,0,181] ?_;refine zx (Qt.grdT J J J (.hit .stop) (fun hgrd=>Qj J J (I_inputsOk xs hn) J)) J ?_;refine Wz [69,48] ?_
 exact V3 J (V4 [] J J (Xk (by rw[hlx]; rfl)))
theorem S_rowOk (xs:List Int) (n:Int) (hn:Enc.gd xs):Con Tryz.prog 165 [] [al xs,ai n] [] (B (rowOk xs n)):=by
 have hn1:=hn.1
 have hlx:=Ye xs
 refine Con.of Tryz.func165 J Tryz.ntmps165 J (fun E => ?_)
 refine Wz [34,42] ?_;refine Xj (fun m st=>∃ k:Nat,k+m=xs.length∧((xs.take k).all (fun n=>inR n 0 15)=true)∧st=(⟨_,[(0,L xs),(1,I n),(5,I k)],[]⟩:St)) (xs.length) ⟨_,⟨0,by omega,by simp,J⟩,Ua []⟩ ?_
 rintro m_A _ ⟨k,hk_A,hp_A,rfl⟩
 refine Wz [18,87] ?_
 refine Xb J (fun h => ?_) (fun h => ?_)
 ·have h3:k<xs.length:=by have:=Gqd h; omega
  have hat:=Yd h3
  refine Wz [16,23,63] ?_;refine zx (Qj J J (Xz xs[k] 0 15) J) J ?_;refine Wz [15,3] ?_
  refine Xb J (fun h4 => ?_) (fun h4 => ?_)
  ·refine Wz [123,200] ?_
   refine Wz [83] ?_
   exact V3 J (V4 [] J J (Xk (by unfold rowOk inOk; rw[all_no h3 (by simpa using h4)]; simp)))
  ·refine Wz [144,172,30] ?_
   refine Wz [2] ?_
   exact⟨xs.length-(k+1),by omega,_,⟨k+1,by omega,X7 hp_A h3 (by simpa using h4),J⟩,Ua []⟩
 ·have h3:¬((k:Int)<(els xs).length):=Gqf h
  refine Wz [29,6,112,201,48] ?_
  exact V3 J (V4 [] J J (Xk (by unfold rowOk inOk; rw[all_end hp_A (by omega),hlx]; simp)))
end
section
open Go.RowKit

abbrev Seen:=Bool×Bool×Bool×Bool
def tileM (e:Bool) (t:Int) (s:Seen×Bool):Option (Seen×Bool) :=
 if t=35 then some s else if e then none else
 if t=49 then (if s.1.1 then none else some ((true,s.1.2),true)) else
 if t=50 then (if s.1.2.1 then none else some ((s.1.1,true,s.1.2.2),true)) else
 if t=51 then (if s.1.2.2.1 then none else some ((s.1.1,s.1.2.1,true,s.1.2.2.2),true)) else
 if t=52 then (if s.1.2.2.2 then none else some ((s.1.1,s.1.2.1,s.1.2.2.1,true),true)) else
 if t=111∨t=46 then some (s.1,true) else none
def colsM (row:ByteArray) (er:Bool) (w:Nat) (s:Seen×Bool):Nat→Option (Seen×Bool)
 |0=>some s
 |c+1=>match colsM row er w s c with
  |none=>none
  |some s'=>tileM (er || decide (c=0) || decide (c+1=w)) (byteAt row c) s'
def rowsM (rows:List ByteArray) (w:Nat):Nat→Option (Seen×Bool)
 |0=>some ((false,false,false,false),false)
 | r+1=>match rowsM rows w r with
  |none=>none
  |some s=>match rows[r]? with
   |none=>none
   |some row=>if row.size=w then colsM row (decide (r=0) || decide (r+1=rows.length)) w s w else none
def widthM (rows:List ByteArray):Nat:=match rows[0]? with
 |some row=>row.size
 |none=>0
def levelOk (l:TLevel):Bool:=decide (3≤l.Rows.length)&&decide (l.Rows.length≤12)&&decide (4≤widthM l.Rows)&&decide (widthM l.Rows≤20)&&match rowsM l.Rows (widthM l.Rows) l.Rows.length with
 |some s=>s.2
 |none=>false

@[reducible] def vb (b:Bool):V1 := .rd [] (.v (.bool b))
section
variable {rows:List ByteArray} {row:ByteArray} {w k c:Nat} {s s':Seen×Bool} {er:Bool}
theorem rows_none {n:Nat} (h:rowsM rows w k=none) (hk:k≤n):rowsM rows w n=none:=by
 induction n with
 | zero => have:k=0:=by omega
           subst this; exact h
 | succ n ih =>
  rcases Gqn n k with h1 | h1
  ·have:k=n+1:=by omega
   subst this; exact h
  ·simp[rowsM,ih h1]
theorem cols_none {n:Nat} (h:colsM row er w s c=none) (hc:c≤n):colsM row er w s n=none:=by
 induction n with
 | zero => have:c=0:=by omega
           subst this; exact h
 | succ n ih =>
  rcases Gqn n c with h1 | h1
  ·have:c=n+1:=by omega
   subst this; exact h
  ·simp[colsM,ih h1]
theorem rows_next (h:rowsM rows w k=some s) (hk:k<rows.length) (hw:rows[k].size=w):rowsM rows w (k+1)=colsM rows[k] (decide (k=0) || decide (k+1=rows.length)) w s w:=by
 rw[rowsM,h]
 simp[Gqe hk,hw]
theorem rows_bad (hk:k<rows.length) (hw:rows[k].size≠w):rowsM rows w (k+1)=none:=by
 rw[rowsM]
 cases rowsM rows w k with
 |none=>rfl
 |some s=>simp[Gqe hk,hw]
theorem cols_next (h:colsM row er w s c=some s'):colsM row er w s (c+1)=tileM (er || decide (c=0) || decide (c+1=w)) (byteAt row c) s':=by
 rw[colsM,h]
theorem level_no {l:TLevel} (hk:k<l.Rows.length) (hw:widthM l.Rows=w) (h:rowsM l.Rows w (k+1)=none):levelOk l=false:=by
 unfold levelOk
 rw[hw,rows_none h (by omega)]
 simp
theorem width_at (h:0<rows.length):widthM rows=rows[0].size:=by simp[widthM,Gqe h]
end
end
section
open Go.RowKit

theorem Xs (x:TLevel) (hg:Enc.gd x):Con Tryz.prog 117 [] [ag x] [] (B (levelOk x)):=by
 obtain⟨rows⟩:=x
 have hn:Enc.gd rows:=hg
 have hn1:=hn.1
 have hlx:=Ye rows
 refine Con.of Tryz.func117 J Tryz.ntmps117 J (fun E => ?_)
 refine Wz [44,21,12,192,109,226] ?_;refine zx (Kx J (.hit (.hit (.hit .stop))) (fun hgrd=>q_gtr J J J J)) J ?_;refine Wz [28,3] ?_
 refine Xb J (fun h => ?_) (fun h => ?_)
 ·simp only[Gqu,decide_eq_true_eq] at h
  refine Wz [107] ?_
  exact V3 J (V4 [] J J (Xk (by simp[levelOk]; omega)))
 simp only[Gqt,decide_eq_false_iff_not] at h
 have h0:0<rows.length:=by omega
 have hat0:(els rows)[(0:Int).toNat]? = some (Enc.e rows[0]):=Yd h0
 have hw:=width_at h0
 refine Wz [27,14,63,143,46,192,0,132,286,28,3] ?_
 refine Xb J (fun h1 => ?_) (fun h1 => ?_)
 ·simp only[Gqu,decide_eq_true_eq] at h1
  refine Wz [107] ?_
  exact V3 J (V4 [] J J (Xk (by simp[levelOk]; omega)))
 simp only[Gqt,decide_eq_false_iff_not] at h1
 obtain⟨w,hw'⟩:∃ w,w=rows[0].size:=⟨_,rfl⟩
 rw[←hw'] at hw h1
 refine Wz [27,1,163,34,21,12,140,64] ?_;refine Xj (fun m st=>∃ (k:Nat) (s:Seen×Bool),k+m=rows.length∧(rowsM rows w k=some s)∧st=(⟨_,[(1,.o (.c (.ptr 0 0))),(3,I w),(4,.o (.c (.ptr 1 0))),(5,B s.2),(33,L rows),(34,I (els rows).length),(35,I k)],[.box [.rd [] (sl rows)],.box [vb false,vb s.1.1,vb s.1.2.1,vb s.1.2.2.1,vb s.1.2.2.2]]⟩:St)) (rows.length) ⟨(fun (k:Nat) (s:Seen×Bool)=>(⟨_,[(1,.o (.c (.ptr 0 0))),(3,I w),(4,.o (.c (.ptr 1 0))),(5,B s.2),(33,L rows),(34,I (els rows).length),(35,I k)],[.box [.rd [] (sl rows)],.box [vb false,vb s.1.1,vb s.1.2.1,vb s.1.2.2.1,vb s.1.2.2.2]]⟩:St)) 0 (((false,false,false,false),false)),⟨0,((false,false,false,false),false),by omega,J,J⟩,V0 [0,1] J (by kernel_rfl) (.c J (.cons (Xv (by omega)) (.c J (.c J (.c J (.c J (.c J (.nil))))))))⟩ ?_
 rintro m_A _ ⟨k,s,hk_A,hp_A,rfl⟩
 refine Wz [1,67,17] ?_
 refine Xb J (fun h => ?_) (fun h => ?_)
 ·have h3:k<rows.length:=by have:=Gqd h; omega
  have hat:=Yd h3
  have hgk:rows[k].size≤9223372036854775807:=hn.2 _ (Gqi h3)
  refine Wz [50,63,60,46,143,0,142,3] ?_
  refine Xb J (fun h4 => ?_) (fun h4 => ?_)
  ·have h4:¬rows[k].size=w:=by have:=Gqd h4; omega
   refine Wz [123,94,157,83] ?_
   exact V3 J (V4 [] J J (Xk (level_no (l:=⟨rows⟩) h3 hw (rows_bad h3 h4)).symm))
  have h4:rows[k].size=w:=by have:=Gqf h4; omega
  have hrn:=rows_next hp_A h3 h4
  obtain⟨er,her⟩:∃ er,er=(decide (k=0) || decide (k+1=rows.length)):=⟨_,rfl⟩
  rw[←her] at hrn
  refine Wz [27,1,151] ?_;refine Xj (fun m st=>∃ (c:Nat) (u:Seen×Bool),c+m=w∧(colsM rows[k] er w s c=some u)∧st=(⟨_,[(1,.o (.c (.ptr 0 0))),(3,I w),(4,.o (.c (.ptr 1 0))),(5,B u.2),(6,I k),(7,S rows[k]),(8,I c),(33,L rows),(34,I (els rows).length),(35,I k)],[.box [.rd [] (sl rows)],.box [vb false,vb u.1.1,vb u.1.2.1,vb u.1.2.2.1,vb u.1.2.2.2]]⟩:St)) (w) ⟨_,⟨0,s,by omega,J,J⟩,Ua [0,1]⟩ ?_
  rintro m_D _ ⟨c,u,hk_D,hp_D,rfl⟩
  refine Wz [18,67] ?_
  refine Xb J (fun h5 => ?_) (fun h5 => ?_)
  ·have h5:c<w:=by have:=Gqd h5; omega
   have hcn:=cols_next hp_D
   obtain⟨t,ht⟩:∃ t,byteAt rows[k] (c:Int).toNat=t:=⟨_,rfl⟩
   rw[show byteAt rows[k] c=t from ht] at hcn
   have htb:0≤t∧t≤255:=ht▸Ya _ _
   obtain⟨⟨sa,sb,sc,sd⟩,so⟩:=u
   obtain⟨e,he⟩:∃ e,e=(er || decide (c=0) || decide (c+1=w)):=⟨_,rfl⟩
   rw[←he] at hcn
   refine Wz [16,23,259,73,201,0,132,207,234,260] ?_;refine zx (Kx J (.hit (.hit (.hit (.hit .stop)))) (fun hgrd=>Xc J J J J (by omega))) J ?_;refine zx (Kx J (.hit (.hit (.hit (.hit (.hit .stop))))) (fun hgrd=>Ze J J J J)) J ?_;refine Wz [28,0,132] ?_;refine zx (Kx J (.hit .stop) (fun hgrd=>Ze J J J J)) J ?_;refine Wz [28,0,132,269] ?_;refine zx (Kx J (.hit (.hit .stop)) (fun hgrd=>Xc J J J J (by omega))) J ?_;refine zx (Kx J (.hit (.hit (.hit .stop))) (fun hgrd=>Ze J J J J)) J ?_;refine Wz [28,46,0,181,270,69,3] ?_
   have hee:(decide ((k:Int)=0) || decide ((k:Int)=((els rows).length:Int)-1) || decide ((c:Int)=0) || decide ((c:Int)=(w:Int)-1))=e:=by
    rw[he,her,hlx]
    have g1:decide ((k:Int)=0)=decide (k=0):=by simp
    have g2:decide ((k:Int)=(rows.length:Int)-1)=decide (k+1=rows.length):=decide_eq_decide.2 (by omega)
    have g3:decide ((c:Int)=0)=decide (c=0):=by simp
    have g4:decide ((c:Int)=(w:Int)-1)=decide (c+1=w):=decide_eq_decide.2 (by omega)
    rw[g1,g2,g3,g4]
   clear he her
   have hbad:colsM rows[k] er w s (c+1)=none→levelOk ⟨rows⟩=false:=fun hc=>level_no (l:=⟨rows⟩) h3 hw (hrn.trans (cols_none hc (by omega)))
   refine Xb J (fun h6 => ?_) (fun h6 => ?_)
   ·rw[hee] at h6
    simp only[Gqg,decide_eq_true_eq] at h6
    refine Wz [123,94,157,40] ?_
    exact V3 J (V4 [] J J (Xk (hbad (hcn.trans (by simp[tileM,h6]))).symm))
   rw[hee] at h6
   have h7:t=35∨e=false:=by
    simp only[Gxt,decide_eq_false_iff_not,Classical.not_not] at h6
    exact h6.symm
   clear h6 hee
   refine AWP.pre (st':=(⟨_,[(1,.o (.c (.ptr 0 0))),(3,I w),(4,.o (.c (.ptr 1 0))),(5,B so),(6,I k),(7,S rows[k]),(8,I c),(9,VI .u8 t),(33,L rows),(34,I (els rows).length),(35,I k)],[.box [.rd [] (sl rows)],.box [vb false,vb sa,vb sb,vb sc,vb sd]]⟩:St)) ?_ (Ua [0,1])
   rcases h7 with rfl | h7
   ·refine Wz [50] ?_
    refine Wz [287,95,7,70,6,235,95,7,95,7,70,144,150,6,235,80] ?_
    exact⟨w-(c+1),by omega,_,⟨c+1,((sa,sb,sc,sd),so),by omega,hcn.trans (by simp[tileM]),J⟩,Ua [0,1]⟩
   subst h7
   rcases (by omega:t=35∨t=49∨t=50∨t=51∨t=52∨t=111∨t=46∨(t≠35∧t≠49∧t≠50∧t≠51∧t≠52∧t≠111∧t≠46)) with rfl | rfl | rfl | rfl | rfl | rfl | rfl | ht7
   ·refine Wz [50] ?_
    refine Wz [287,95,7,70,6,235,95,7,95,7,70,144,150,6,235,80] ?_
    exact⟨w-(c+1),by omega,_,⟨c+1,((sa,sb,sc,sd),so),by omega,hcn.trans (by simp[tileM]),J⟩,Ua [0,1]⟩
   ·refine Wz [50] ?_
    refine Wz [197,11,208,26,2,51,36,164,209,187,3] ?_
    refine Xb J (fun h8 => ?_) (fun h8 => ?_)
    ·have h8:sa=true:=h8
     subst h8
     refine Wz [123,94,94,157,40] ?_
     exact V3 J (V4 [] J J (Xk (hbad (hcn.trans (by simp[tileM]))).symm))
    ·have h8:sa=false:=h8
     subst h8
     refine Wz [27,65,164,209,210,52,150,6,155,22,115,82] ?_
     exact⟨w-(c+1),by omega,_,⟨c+1,((true,sb,sc,sd),true),by omega,hcn.trans (by simp[tileM]),J⟩,Ua [0,1]⟩
   ·refine Wz [50] ?_
    refine Wz [197,11,208,26,2,51,36,164,209,187,3] ?_
    refine Xb J (fun h8 => ?_) (fun h8 => ?_)
    ·have h8:sb=true:=h8
     subst h8
     refine Wz [123,94,94,157,40] ?_
     exact V3 J (V4 [] J J (Xk (hbad (hcn.trans (by simp[tileM]))).symm))
    ·have h8:sb=false:=h8
     subst h8
     refine Wz [27,65,164,209,210,52,150,6,155,22,115,82] ?_
     exact⟨w-(c+1),by omega,_,⟨c+1,((sa,true,sc,sd),true),by omega,hcn.trans (by simp[tileM]),J⟩,Ua [0,1]⟩
   ·refine Wz [50] ?_
    refine Wz [197,11,208,26,2,51,36,164,209,187,3] ?_
    refine Xb J (fun h8 => ?_) (fun h8 => ?_)
    ·have h8:sc=true:=h8
     subst h8
     refine Wz [123,94,94,157,40] ?_
     exact V3 J (V4 [] J J (Xk (hbad (hcn.trans (by simp[tileM]))).symm))
    ·have h8:sc=false:=h8
     subst h8
     refine Wz [27,65,164,209,210,52,150,6,155,22,115,82] ?_
     exact⟨w-(c+1),by omega,_,⟨c+1,((sa,sb,true,sd),true),by omega,hcn.trans (by simp[tileM]),J⟩,Ua [0,1]⟩
   ·refine Wz [50] ?_
    refine Wz [197,11,208,26,2,51,36,164,209,187,3] ?_
    refine Xb J (fun h8 => ?_) (fun h8 => ?_)
    ·have h8:sd=true:=h8
     subst h8
     refine Wz [123,94,94,157,40] ?_
     exact V3 J (V4 [] J J (Xk (hbad (hcn.trans (by simp[tileM]))).symm))
    ·have h8:sd=false:=h8
     subst h8
     refine Wz [27,65,164,209,210,52,150,6,155,22,115,82] ?_
     exact⟨w-(c+1),by omega,_,⟨c+1,((sa,sb,sc,true),true),by omega,hcn.trans (by simp[tileM]),J⟩,Ua [0,1]⟩
   ·refine Wz [50] ?_
    refine Wz [197,11] ?_;refine zx (Zm (b:=false) J J J J (by decide)) J ?_;refine Wz [26,70,6,155,11,235,26,95,7,70,144,150,6,155,22,115,82] ?_
    exact⟨w-(c+1),by omega,_,⟨c+1,((sa,sb,sc,sd),true),by omega,hcn.trans (by simp[tileM]),J⟩,Ua [0,1]⟩
   ·refine Wz [50] ?_
    refine Wz [287,95,7,70,6,155,11,155,26,11,235,26,70,144,150,6,155,22,115,82] ?_
    exact⟨w-(c+1),by omega,_,⟨c+1,((sa,sb,sc,sd),true),by omega,hcn.trans (by simp[tileM]),J⟩,Ua [0,1]⟩
   ·refine Wz [50,258] ?_
    refine Wz [0,181] ?_;refine zx (Qt.grdT J J J (.hit .stop) (fun hgrd=>q_leq J J J J)) J ?_;refine Wz [69,2] ?_
    refine Xb J (fun h8 => ?_) (fun h8 => ?_)
    ·simp only[Gqg,decide_eq_true_eq] at h8
     omega
    refine Wz [6,142,0,181,270,69,0,181,270,69,2] ?_
    refine Xb J (fun h9 => ?_) (fun h9 => ?_)
    ·refine Wz [123,177,94,271] ?_
     refine Wz [94,40] ?_
     exact V3 J (V4 [] J J (Xk (hbad (hcn.trans (by simp[tileM,ht7]))).symm))
    ·simp only[Gxt,decide_eq_false_iff_not,Classical.not_not] at h9
     omega
  ·have h5:c=w:=by have:=Gqf h5; omega
   rw[h5] at hp_D
   rw[hp_D] at hrn
   refine Wz [158,159,54] ?_
   exact⟨rows.length-(k+1),by omega,_,⟨k+1,u,by omega,hrn,J⟩,Ua [0,1]⟩
 ·have h3:¬((k:Int)<(els rows).length):=Gqf h
  have hk:k=rows.length:=by omega
  subst hk
  refine Wz [111] ?_
  exact V3 J (V4 [] J J (Xk (by
   unfold levelOk
   rw[hw,hp_A]
   have:3≤rows.length∧rows.length≤12∧4≤w∧w≤20:=by omega
   simp[this])))
end
end Go.Proofs.YtpmacgnmlmmojaaGreatDoor
