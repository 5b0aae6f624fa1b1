/-
  Rules, data and contracts of functions: part 17 of the proof.
  Conditions: those that each theorem names.
-/
import Derived.Test.YtoecjaohdnoenaaGreatDDRecRowk15
set_option linter.unusedVariables false
set_option linter.unusedSimpArgs false
set_option maxRecDepth 8000
set_option maxHeartbeats 8000000
namespace Go.Proofs.YtoecjaohdnoenaaGreat
section
open Go.RowKit

structure TBody where
 Kind:Int
 Owner:Int
 X:Int
 Y:Int
 VX:Int
 VY:Int
 Aim:Int
 Life:Int
 Timer:Int
 deriving DecidableEq
instance:Enc TBody:=⟨9,by omega,fun x => [.v (.int .i64 x.Kind),.v (.int .i64 x.Owner),.v (.int .i64 x.X),.v (.int .i64 x.Y),.v (.int .i64 x.VX),.v (.int .i64 x.VY),.v (.int .i64 x.Aim),.v (.int .i64 x.Life),.v (.int .i64 x.Timer)],fun _=>rfl,fun x=>Enc.gd x.Kind∧Enc.gd x.Owner∧Enc.gd x.X∧Enc.gd x.Y∧Enc.gd x.VX∧Enc.gd x.VY∧Enc.gd x.Aim∧Enc.gd x.Life∧Enc.gd x.Timer,fun x=>0⟩
theorem TBody.same {x y:TBody} (h0:x.Kind=y.Kind) (h1:x.Owner=y.Owner) (h2:x.X=y.X) (h3:x.Y=y.Y) (h4:x.VX=y.VX) (h5:x.VY=y.VY) (h6:x.Aim=y.Aim) (h7:x.Life=y.Life) (h8:x.Timer=y.Timer):x=y:=by cases x; cases y; simp_all
structure TWorld where
 Level:TLevel
 Tick:Int
 Seed:Int
 Scores:(List Int)
 Bodies:(List TBody)
 deriving DecidableEq
instance:Enc TWorld:=⟨5,by omega,fun x => [sl x.Level.Rows,.v (.int .i64 x.Tick),.v (.int .i64 x.Seed),sl x.Scores,sl x.Bodies],fun _=>rfl,fun x=>Enc.gd x.Level∧Enc.gd x.Tick∧Enc.gd x.Seed∧Enc.gd x.Scores∧Enc.gd x.Bodies,fun x=>Enc.wt x.Level+Enc.wt x.Scores+Enc.wt x.Bodies⟩
theorem TWorld.same {x y:TWorld} (h0:x.Level=y.Level) (h1:x.Tick=y.Tick) (h2:x.Seed=y.Seed) (h3:x.Scores=y.Scores) (h4:x.Bodies=y.Bodies):x=y:=by cases x; cases y; simp_all
structure TSpectator where
 World:TWorld
 Gaps:Int
 deriving DecidableEq
instance:Enc TSpectator:=⟨6,by omega,fun x => [sl x.World.Level.Rows,.v (.int .i64 x.World.Tick),.v (.int .i64 x.World.Seed),sl x.World.Scores,sl x.World.Bodies,.v (.int .i64 x.Gaps)],fun _=>rfl,fun x=>Enc.gd x.World∧Enc.gd x.Gaps,fun x=>Enc.wt x.World⟩
theorem TSpectator.same {x y:TSpectator} (h0:x.World=y.World) (h1:x.Gaps=y.Gaps):x=y:=by cases x; cases y; simp_all

theorem to_Body (x:TBody) (hg:Enc.wt x≤1048576):Con Tryz.prog 236 [] [ag x] (ownO (Enc.e x)) (.o (.ag (ownV 0 (Enc.e x)))):=by
 refine Con.of Tryz.func236 J Tryz.ntmps236 J (fun E => ?_)
 refine Wz [53,3,4,66,3,23,30,23,30,23,30,23,30,23,30,23,30,23,30,23,30,23,30,14,56,74,48] ?_
 exact Xm J J J J (Gc [] J J J)
theorem eq_Body (x y:TBody) (hg:Enc.gd x):Con Tryz.prog 218 [] [ag x,ag y] [] (B (decide (x=y))):=by
 obtain⟨g_Kind,g_Owner,g_X,g_Y,g_VX,g_VY,g_Aim,g_Life,g_Timer⟩:=hg
 by_cases e_Kind:¬x.Kind=y.Kind
 ·have hk:decide (x.Kind≠y.Kind)=true:=by simp[e_Kind]
  refine Con.of Tryz.func218 J Tryz.ntmps218 J (fun E => ?_)
  refine Wz [115,24,39] ?_
  exact Gb J (Gc [] J J (Xk (Gqa fun e=>e_Kind (by rw[e])).symm))
 have e_Kind:=Classical.not_not.1 e_Kind
 have k_Kind:decide (x.Kind≠y.Kind)=false:=by simp[e_Kind]
 by_cases e_Owner:¬x.Owner=y.Owner
 ·have hk:decide (x.Owner≠y.Owner)=true:=by simp[e_Owner]
  refine Con.of Tryz.func218 J Tryz.ntmps218 J (fun E => ?_)
  refine Wz [115,167,24,39] ?_
  exact Gb J (Gc [] J J (Xk (Gqa fun e=>e_Owner (by rw[e])).symm))
 have e_Owner:=Classical.not_not.1 e_Owner
 have k_Owner:decide (x.Owner≠y.Owner)=false:=by simp[e_Owner]
 by_cases e_X:¬x.X=y.X
 ·have hk:decide (x.X≠y.X)=true:=by simp[e_X]
  refine Con.of Tryz.func218 J Tryz.ntmps218 J (fun E => ?_)
  refine Wz [115,67,24,39] ?_
  exact Gb J (Gc [] J J (Xk (Gqa fun e=>e_X (by rw[e])).symm))
 have e_X:=Classical.not_not.1 e_X
 have k_X:decide (x.X≠y.X)=false:=by simp[e_X]
 by_cases e_Y:¬x.Y=y.Y
 ·have hk:decide (x.Y≠y.Y)=true:=by simp[e_Y]
  refine Con.of Tryz.func218 J Tryz.ntmps218 J (fun E => ?_)
  refine Wz [115,67,167,24,39] ?_
  exact Gb J (Gc [] J J (Xk (Gqa fun e=>e_Y (by rw[e])).symm))
 have e_Y:=Classical.not_not.1 e_Y
 have k_Y:decide (x.Y≠y.Y)=false:=by simp[e_Y]
 by_cases e_VX:¬x.VX=y.VX
 ·have hk:decide (x.VX≠y.VX)=true:=by simp[e_VX]
  refine Con.of Tryz.func218 J Tryz.ntmps218 J (fun E => ?_)
  refine Wz [115,67,67,24,39] ?_
  exact Gb J (Gc [] J J (Xk (Gqa fun e=>e_VX (by rw[e])).symm))
 have e_VX:=Classical.not_not.1 e_VX
 have k_VX:decide (x.VX≠y.VX)=false:=by simp[e_VX]
 by_cases e_VY:¬x.VY=y.VY
 ·have hk:decide (x.VY≠y.VY)=true:=by simp[e_VY]
  refine Con.of Tryz.func218 J Tryz.ntmps218 J (fun E => ?_)
  refine Wz [115,67,67,167,24,39] ?_
  exact Gb J (Gc [] J J (Xk (Gqa fun e=>e_VY (by rw[e])).symm))
 have e_VY:=Classical.not_not.1 e_VY
 have k_VY:decide (x.VY≠y.VY)=false:=by simp[e_VY]
 by_cases e_Aim:¬x.Aim=y.Aim
 ·have hk:decide (x.Aim≠y.Aim)=true:=by simp[e_Aim]
  refine Con.of Tryz.func218 J Tryz.ntmps218 J (fun E => ?_)
  refine Wz [115,67,67,67,24,39] ?_
  exact Gb J (Gc [] J J (Xk (Gqa fun e=>e_Aim (by rw[e])).symm))
 have e_Aim:=Classical.not_not.1 e_Aim
 have k_Aim:decide (x.Aim≠y.Aim)=false:=by simp[e_Aim]
 by_cases e_Life:¬x.Life=y.Life
 ·have hk:decide (x.Life≠y.Life)=true:=by simp[e_Life]
  refine Con.of Tryz.func218 J Tryz.ntmps218 J (fun E => ?_)
  refine Wz [115,67,67,67,167,24,39] ?_
  exact Gb J (Gc [] J J (Xk (Gqa fun e=>e_Life (by rw[e])).symm))
 have e_Life:=Classical.not_not.1 e_Life
 have k_Life:decide (x.Life≠y.Life)=false:=by simp[e_Life]
 by_cases e_Timer:¬x.Timer=y.Timer
 ·have hk:decide (x.Timer≠y.Timer)=true:=by simp[e_Timer]
  refine Con.of Tryz.func218 J Tryz.ntmps218 J (fun E => ?_)
  refine Wz [115,67,67,67,67,24,39] ?_
  exact Gb J (Gc [] J J (Xk (Gqa fun e=>e_Timer (by rw[e])).symm))
 have e_Timer:=Classical.not_not.1 e_Timer
 have k_Timer:decide (x.Timer≠y.Timer)=false:=by simp[e_Timer]
 refine Con.of Tryz.func218 J Tryz.ntmps218 J (fun E => ?_)
 refine Wz [115,67,67,67,67,24,41,26,48] ?_
 exact Gb J (Gc [] J J (Xk (Gqb (TBody.same e_Kind e_Owner e_X e_Y e_VX e_VY e_Aim e_Life e_Timer)).symm))
theorem eq_BodyS (xs ys:List TBody) (hn:Enc.gd xs):Con Tryz.prog 141 [] [al xs,al ys] [] (B (decide (xs=ys))):=by
 have hn1:=hn.1
 have hlx:=Yx xs
 have hly:=Yx ys
 by_cases hl:xs.length=ys.length
 ·have hb:decide (((els xs).length:Int)≠((els ys).length:Int))=false:=by rw[hlx,hly,hl]; simp
  refine Con.of Tryz.func141 J Tryz.ntmps141 J (fun E => ?_)
  refine Wz [87,7,0,7,24,41,46] ?_;refine Xj (fun m st=>∃ k:Nat,k+m=xs.length∧(xs.take k=ys.take k)∧st=(⟨_,[(0,L xs),(1,L ys),(5,I k)],[]⟩:St)) (xs.length) ⟨_,⟨0,by omega,by simp,J⟩,Gi []⟩ ?_
  rintro m_A _ ⟨k,hk_A,hp_A,rfl⟩
  refine Wz [20,7,37] ?_
  refine Xb J (fun h => ?_) (fun h => ?_)
  ·have h3:k<xs.length:=by have:=Gqe h; omega
   have h4:k<ys.length:=by omega
   have hat:=Yv h3
   have hat2:=Yv h4
   have hc:=eq_Body xs[k] ys[k] (hn.2 _ (Gqj h3))
   by_cases he:xs[k]=ys[k]
   ·rw[Gqb he] at hc
    refine Wz [11,8,213,34,183,184,34,183,184] ?_;refine Vk (Qj J J (hc) J) J ?_;refine Wz [147,21,100] ?_
    exact⟨xs.length-(k+1),by omega,_,⟨k+1,by omega,eq_next h3 h4 hp_A he,J⟩,Gi []⟩
   ·rw[Gqa he] at hc
    refine Wz [11,8,213,34,183,184,34,183,184] ?_;refine Vk (Qj J J (hc) J) J ?_;refine Wz [147,21,29,26,69] ?_
    exact Gb J (Gc [] J J (Xk (eq_ne h3 h4 he).symm))
  ·have h3:¬((k:Int)<(els xs).length):=Gqf h
   refine Wz [27,26,48] ?_
   exact Gb J (Gc [] J J (Xk (eq_all (by omega) hl hp_A).symm))
 ·have hb:decide (((els xs).length:Int)≠((els ys).length:Int))=true:=by rw[hlx,hly]; simp; omega
  refine Con.of Tryz.func141 J Tryz.ntmps141 J (fun E => ?_)
  refine Wz [87,7,0,7,24,39] ?_
  exact Gb J (Gc [] J J (Xk (eq_len hl).symm))
theorem wts_body:∀ xs:List TBody,wts xs=0
 | []=>rfl
 |x::xs=>by simp[wts,wts_body xs,Enc.wt]
theorem sz_BodyS (xs:List TBody) (left:Int) (hg:Enc.gd xs) (h0:0≤left) (h1:left≤1048576):Con Tryz.prog 179 [] [al xs,ai left] [] (I (szr (Enc.wt xs) left)):=by
 have hlen:=Yx xs
 have hx:=hg.1
 have hw:Enc.wt xs=xs.length:=by simp[Enc.wt,wts_body]
 refine Con.of Tryz.func179 J Tryz.ntmps179 J (fun E => ?_)
 refine Wz [32,13,7,65,78,37] ?_
 refine Xb J (fun h => ?_) (fun h => ?_)
 ·refine Wz [98] ?_
  have h2:=Gqe (p:=_) (by simpa using h)
  exact Gb J (Gc [] J J (Xz (by rw[Gd])))
 ·refine Wz [22,10,2] ?_
  refine Wz [74,48] ?_
  have h2:=Gqf h
  exact Gb J (Gc [] J J (Xz (by rw[Ge]; omega)))
def zBody:List T := [.v (.int .i64 0),.v (.int .i64 0),.v (.int .i64 0),.v (.int .i64 0),.v (.int .i64 0),.v (.int .i64 0),.v (.int .i64 0),.v (.int .i64 0),.v (.int .i64 0)]
theorem to_BodyS (xs:List TBody) (hg:Enc.wt xs≤1048576):Con Tryz.prog 190 [] [al xs] [.row 9 (els xs)] (.o (.c (.ref 0))):=by
 have hlen:=Yx xs
 have hw:Enc.wt xs=xs.length+wts xs:=rfl
 have hw2:=wts_body xs
 refine Con.of Tryz.func190 J Tryz.ntmps190 J (fun E => ?_)
 refine Wz [32,10,7,253,2,46] ?_;refine Xj (fun m st=>∃ k:Nat,k+m=xs.length∧(True)∧st=(⟨_,[(0,L xs),(3,.o (.c (.ref 0))),(4,I k)],[.row 9 (part xs zBody k)]⟩:St)) (xs.length) ⟨(fun k:Nat=>(⟨_,[(0,L xs),(3,.o (.c (.ref 0))),(4,I k)],[.row 9 (part xs zBody k)]⟩:St)) 0,⟨0,by omega,trivial,J⟩,Ga [0] J (Kw (Zr xs _)) (.c J (.c J (.c J (.nil))))⟩ ?_
 rintro m_A _ ⟨k,hk_A,hp_A,rfl⟩
 refine Wz [20,7,37] ?_
 refine Xb J (fun h => ?_) (fun h => ?_)
 ·have h3:k<xs.length:=by have:=Gqe h; omega
  have hat:=Yv h3
  have hz:=part_at xs zBody h3
  have hpl:(k:Int)<(part xs zBody k).length:=by rw[part_len xs _ (by omega)]; omega
  have hc:=to_Body xs[k] (by show (0:Nat)≤_; omega)
  refine Wz [11,33,132,0,110,131] ?_;refine M1 (Z3 J J (hc) J J J) J J ?_;refine Wz [233,215,51,129] ?_
  exact⟨xs.length-(k+1),by omega,(fun k:Nat=>(⟨_,[(0,L xs),(3,.o (.c (.ref 0))),(4,I k)],[.row 9 (part xs zBody k)]⟩:St)) (k+1),⟨k+1,by omega,trivial,J⟩,Ga [0] J (Kw (part_set xs zBody h3 _ (by rfl) (by rfl)).symm) (.c J (.c J (.c J (.nil))))⟩
 ·have h3:¬((k:Int)<(els xs).length):=Gqf h
  refine Wz [89,17] ?_
  exact Gb J (Gc [0] J (Kw (part_all xs _ (by omega)).symm) J)
theorem sz_World (x:TWorld) (left:Int) (hg:Enc.gd x) (h0:0≤left) (h1:left≤1048576):Con Tryz.prog 97 [] [ag x,ai left] [] (I (szr (Enc.wt x) left)):=by
 obtain⟨g_Level,g_Tick,g_Seed,g_Scores,g_Bodies⟩:=hg
 have hw:Enc.wt x=Enc.wt x.Level+Enc.wt x.Scores+Enc.wt x.Bodies:=rfl
 have hm1:decide ((-1:Int)<0)=true:=rfl
 have hc_Level:=sz_Level x.Level (left) g_Level (by omega) (by omega)
 by_cases n_Level:left<Enc.wt x.Level
 ·rw[K7 n_Level] at hc_Level
  refine Con.of Tryz.func97 J Tryz.ntmps97 J (fun E => ?_)
  refine Wz [82,120] ?_;refine zx (Qj J J (hc_Level) J) J ?_;refine Wz [148,39] ?_
  exact Gb J (Gc [] J J (Xz (by rw[Gd])))
 rw[Ge] at hc_Level
 have hb_Level:decide (left-Enc.wt x.Level<0)=false:=Gqa (by omega)
 have hc_Scores:=sz_IntS x.Scores (left-Enc.wt x.Level) g_Scores (by omega) (by omega)
 by_cases n_Scores:left-Enc.wt x.Level<Enc.wt x.Scores
 ·rw[K7 n_Scores] at hc_Scores
  refine Con.of Tryz.func97 J Tryz.ntmps97 J (fun E => ?_)
  refine Wz [82,120] ?_;refine zx (Qj J J (hc_Level) J) J ?_;refine Wz [91,52] ?_;refine zx (Qj J J (hc_Scores) J) J ?_;refine Wz [148,39] ?_
  exact Gb J (Gc [] J J (Xz (by rw[Gd])))
 rw[Ge] at hc_Scores
 have hb_Scores:decide (left-Enc.wt x.Level-Enc.wt x.Scores<0)=false:=Gqa (by omega)
 have hc_Bodies:=sz_BodyS x.Bodies (left-Enc.wt x.Level-Enc.wt x.Scores) g_Bodies (by omega) (by omega)
 by_cases n_Bodies:left-Enc.wt x.Level-Enc.wt x.Scores<Enc.wt x.Bodies
 ·rw[K7 n_Bodies] at hc_Bodies
  refine Con.of Tryz.func97 J Tryz.ntmps97 J (fun E => ?_)
  refine Wz [82,120] ?_;refine zx (Qj J J (hc_Level) J) J ?_;refine Wz [91,52] ?_;refine zx (Qj J J (hc_Scores) J) J ?_;refine Wz [91,52] ?_;refine zx (Qj J J (hc_Bodies) J) J ?_;refine Wz [148,39] ?_
  exact Gb J (Gc [] J J (Xz (by rw[Gd])))
 rw[Ge] at hc_Bodies
 have hb_Bodies:decide (left-Enc.wt x.Level-Enc.wt x.Scores-Enc.wt x.Bodies<0)=false:=Gqa (by omega)
 refine Con.of Tryz.func97 J Tryz.ntmps97 J (fun E => ?_)
 refine Wz [82,120] ?_;refine zx (Qj J J (hc_Level) J) J ?_;refine Wz [91,52] ?_;refine zx (Qj J J (hc_Scores) J) J ?_;refine Wz [91,52] ?_;refine zx (Qj J J (hc_Bodies) J) J ?_;refine Wz [91,10,17] ?_
 exact Gb J (Gc [] J J (Xz (by rw[Ge]; omega)))
theorem to_World (x:TWorld) (hg:Enc.wt x≤1048576):Con Tryz.prog 104 [] [ag x] (ownO (Enc.e x)) (.o (.ag (ownV 0 (Enc.e x)))):=by
 have hw:Enc.wt x=Enc.wt x.Level+Enc.wt x.Scores+Enc.wt x.Bodies:=rfl
 refine Con.of Tryz.func104 J Tryz.ntmps104 J (fun E => ?_)
 refine Wz [53,3,4,66,3,185] ?_;refine M1 (Z3 J J (to_Level x.Level (by omega)) J J J) J J ?_;refine Wz [159,56,23,30,23,30,23] ?_;refine M1 (Z3 J J (to_IntS x.Scores (by omega)) J J J) J J ?_;refine Wz [30,23] ?_;refine M1 (Z3 J J (to_BodyS x.Bodies (by omega)) J J J) J J ?_;refine Wz [30,14,56,74,48] ?_
 exact Xm J J J J (Gc [3,4,5] J J J)
theorem eq_World (x y:TWorld) (hg:Enc.gd x):Con Tryz.prog 48 [] [ag x,ag y] [] (B (decide (x=y))):=by
 obtain⟨g_Level,g_Tick,g_Seed,g_Scores,g_Bodies⟩:=hg
 by_cases e_Level:¬x.Level=y.Level
 ·have hc:=eq_Level x.Level y.Level g_Level
  rw[Gqa e_Level] at hc
  refine Con.of Tryz.func48 J Tryz.ntmps48 J (fun E => ?_)
  refine Wz [130,119] ?_;refine zx (Qj J J (hc) J) J ?_;refine Wz [9,39] ?_
  exact Gb J (Gc [] J J (Xk (Gqa fun e=>e_Level (by rw[e])).symm))
 have e_Level:=Classical.not_not.1 e_Level
 have hc_Level:=eq_Level x.Level y.Level g_Level
 rw[Gqb e_Level] at hc_Level
 by_cases e_Tick:¬x.Tick=y.Tick
 ·have hk:decide (x.Tick≠y.Tick)=true:=by simp[e_Tick]
  refine Con.of Tryz.func48 J Tryz.ntmps48 J (fun E => ?_)
  refine Wz [130,119] ?_;refine zx (Qj J J (hc_Level) J) J ?_;refine Wz [109,24,39] ?_
  exact Gb J (Gc [] J J (Xk (Gqa fun e=>e_Tick (by rw[e])).symm))
 have e_Tick:=Classical.not_not.1 e_Tick
 have k_Tick:decide (x.Tick≠y.Tick)=false:=by simp[e_Tick]
 by_cases e_Seed:¬x.Seed=y.Seed
 ·have hk:decide (x.Seed≠y.Seed)=true:=by simp[e_Seed]
  refine Con.of Tryz.func48 J Tryz.ntmps48 J (fun E => ?_)
  refine Wz [130,119] ?_;refine zx (Qj J J (hc_Level) J) J ?_;refine Wz [109,167,24,39] ?_
  exact Gb J (Gc [] J J (Xk (Gqa fun e=>e_Seed (by rw[e])).symm))
 have e_Seed:=Classical.not_not.1 e_Seed
 have k_Seed:decide (x.Seed≠y.Seed)=false:=by simp[e_Seed]
 by_cases e_Scores:¬x.Scores=y.Scores
 ·have hc:=eq_IntS x.Scores y.Scores g_Scores
  rw[Gqa e_Scores] at hc
  refine Con.of Tryz.func48 J Tryz.ntmps48 J (fun E => ?_)
  refine Wz [130,119] ?_;refine zx (Qj J J (hc_Level) J) J ?_;refine Wz [109,67] ?_;refine zx (Qj J J (hc) J) J ?_;refine Wz [9,39] ?_
  exact Gb J (Gc [] J J (Xk (Gqa fun e=>e_Scores (by rw[e])).symm))
 have e_Scores:=Classical.not_not.1 e_Scores
 have hc_Scores:=eq_IntS x.Scores y.Scores g_Scores
 rw[Gqb e_Scores] at hc_Scores
 by_cases e_Bodies:¬x.Bodies=y.Bodies
 ·have hc:=eq_BodyS x.Bodies y.Bodies g_Bodies
  rw[Gqa e_Bodies] at hc
  refine Con.of Tryz.func48 J Tryz.ntmps48 J (fun E => ?_)
  refine Wz [130,119] ?_;refine zx (Qj J J (hc_Level) J) J ?_;refine Wz [109,67] ?_;refine zx (Qj J J (hc_Scores) J) J ?_;refine Wz [109] ?_;refine zx (Qj J J (hc) J) J ?_;refine Wz [9,39] ?_
  exact Gb J (Gc [] J J (Xk (Gqa fun e=>e_Bodies (by rw[e])).symm))
 have e_Bodies:=Classical.not_not.1 e_Bodies
 have hc_Bodies:=eq_BodyS x.Bodies y.Bodies g_Bodies
 rw[Gqb e_Bodies] at hc_Bodies
 refine Con.of Tryz.func48 J Tryz.ntmps48 J (fun E => ?_)
 refine Wz [130,119] ?_;refine zx (Qj J J (hc_Level) J) J ?_;refine Wz [109,67] ?_;refine zx (Qj J J (hc_Scores) J) J ?_;refine Wz [109] ?_;refine zx (Qj J J (hc_Bodies) J) J ?_;refine Wz [73,26,48] ?_
 exact Gb J (Gc [] J J (Xk (Gqb (TWorld.same e_Level e_Tick e_Seed e_Scores e_Bodies)).symm))
/-! ### Marks -/
theorem mk_nextE {α:Type} [Enc α] {ms xs:List α} (hl:ms.length=xs.length) {i:Nat} (h:i<xs.length):els (ms.take (i+1)++xs.drop (i+1))=(els (ms.take i++xs.drop i)).set i (Enc.e (ms[i]'(by omega))):=by
 have h2:i<ms.length:=by omega
 rw[←els_set]
 congr 1
 have hi:(ms.take i).length=i:=by simp; omega
 rw[Gq1 h2,List.set_append_right _ _ (by omega)]
 have:i-(ms.take i).length=0:=by omega
 rw[this,Gxu h,List.set_cons_zero,Gqu]
 rfl
def markBody (k:Int):TBody:=⟨k,k+1,k+1+1,k+1+1+1,k+1+1+1+1,k+1+1+1+1+1,k+1+1+1+1+1+1,k+1+1+1+1+1+1+1,k+1+1+1+1+1+1+1+1⟩
def markB (xs:List TBody) (k:Int):List TBody:=(List.range xs.length).map fun (i:Nat)=>markBody (k+9*i)
theorem markB_len (xs:List TBody) (k:Int):(markB xs k).length=xs.length:=by simp[markB]
theorem markB_at {xs:List TBody} {k:Int} {i:Nat} (h:i<(markB xs k).length):(markB xs k)[i]=markBody (k+9*i):=by simp[markB]
theorem L_markBodyS (xs:List TBody) (k:Int) (hL:xs.length≤1048576) (h0:0<k) (hk:k≤4294967296):Con Tryz.prog 142 [.row 9 (els xs),.gh 0 (.c (.ref 0))] [.c (.ref 0),ai k] [.row 9 (els (markB xs k)),.gh 0 (.c (.ref 0))] (I (k+9*xs.length)):=by
 have hml:=markB_len xs k
 refine Con.of Tryz.func142 J Tryz.ntmps142 J (fun E => ?_)
 refine Wz [32,46] ?_;refine Xj (fun m st=>∃ i:Nat,i+m=xs.length∧(True)∧st=(⟨_,[(0,.o (.c (.ref 0))),(1,I (k+9*i)),(5,I i)],[.row 9 (els ((markB xs k).take i++xs.drop i)),.gh 0 (.c (.ref 0))]⟩:St)) (xs.length) ⟨(fun i:Nat=>(⟨_,[(0,.o (.c (.ref 0))),(1,I (k+9*i)),(5,I i)],[.row 9 (els ((markB xs k).take i++xs.drop i)),.gh 0 (.c (.ref 0))]⟩:St)) 0,⟨0,by omega,trivial,J⟩,Ga [0,1] J (by kernel_rfl) (.c J (.cons (Xz (by simp)) (.c J (.nil))))⟩ ?_
 rintro m_A _ ⟨i,hk_A,hp_A,rfl⟩
 have hll:(els ((markB xs k).take i++xs.drop i)).length=xs.length:=by rw[Yx,Zk hml (by omega)]
 refine Wz [20,102,37] ?_
 refine Xb J (fun h => ?_) (fun h => ?_)
 ·have h3:i<xs.length:=by have:=Gqe h; omega
  have hi:i<((markB xs k).take i++xs.drop i).length:=by rw[Zk hml (by omega)]; exact h3
  have hat:=Yv hi
  rw[mk_at hml h3] at hat
  obtain⟨es0,hes0⟩:∃ es0,es0=els ((markB xs k).take i++xs.drop i):=⟨_,rfl⟩
  rw[←hes0] at hll hat
  have hq:(i:Int).toNat<es0.length:=by omega
  have hset:∀ L:List T,(es0.set (i:Int).toNat L)[(i:Int).toNat]? = some L:=fun L=>Gxo hq
  have hsln:∀ L:List T,(es0.set (i:Int).toNat L).length=xs.length:=fun L=>by rw[Gxe]; exact hll
  rw[hes0.symm]
  refine Wz [11,99,47,123,125,3,10,105,99] ?_
  have hat0:=hset [.v (.int .i64 (k+9*(i:Int))),.v (.int .i64 xs[i].Owner),.v (.int .i64 xs[i].X),.v (.int .i64 xs[i].Y),.v (.int .i64 xs[i].VX),.v (.int .i64 xs[i].VY),.v (.int .i64 xs[i].Aim),.v (.int .i64 xs[i].Life),.v (.int .i64 xs[i].Timer)]
  have hln0:=hsln [.v (.int .i64 (k+9*(i:Int))),.v (.int .i64 xs[i].Owner),.v (.int .i64 xs[i].X),.v (.int .i64 xs[i].Y),.v (.int .i64 xs[i].VX),.v (.int .i64 xs[i].VY),.v (.int .i64 xs[i].Aim),.v (.int .i64 xs[i].Life),.v (.int .i64 xs[i].Timer)]
  refine AL.weak (st':=(⟨_,[(0,.o (.c (.ref 0))),(1,I ((k+9*(i:Int))+1)),(5,I i),(19,.o (.c (.ref 0))),(20,I i),(21,I ((k+9*(i:Int))+1))],[.row 9 (es0.set (i:Int).toNat [.v (.int .i64 (k+9*(i:Int))),.v (.int .i64 xs[i].Owner),.v (.int .i64 xs[i].X),.v (.int .i64 xs[i].Y),.v (.int .i64 xs[i].VX),.v (.int .i64 xs[i].VY),.v (.int .i64 xs[i].Aim),.v (.int .i64 xs[i].Life),.v (.int .i64 xs[i].Timer)]),.gh 0 (.c (.ref 0))]⟩:St)) (Ga [0,1] J (row2 J) (.c J (.c J (.c J (.c J (.c J (.c J (.nil)))))))) ?_;refine Wz [47,123,125,3,10,105,99] ?_
  have hat1:=hset [.v (.int .i64 (k+9*(i:Int))),.v (.int .i64 ((k+9*(i:Int))+1)),.v (.int .i64 xs[i].X),.v (.int .i64 xs[i].Y),.v (.int .i64 xs[i].VX),.v (.int .i64 xs[i].VY),.v (.int .i64 xs[i].Aim),.v (.int .i64 xs[i].Life),.v (.int .i64 xs[i].Timer)]
  have hln1:=hsln [.v (.int .i64 (k+9*(i:Int))),.v (.int .i64 ((k+9*(i:Int))+1)),.v (.int .i64 xs[i].X),.v (.int .i64 xs[i].Y),.v (.int .i64 xs[i].VX),.v (.int .i64 xs[i].VY),.v (.int .i64 xs[i].Aim),.v (.int .i64 xs[i].Life),.v (.int .i64 xs[i].Timer)]
  refine AL.weak (st':=(⟨_,[(0,.o (.c (.ref 0))),(1,I (((k+9*(i:Int))+1)+1)),(5,I i),(26,.o (.c (.ref 0))),(27,I i),(28,I (((k+9*(i:Int))+1)+1))],[.row 9 (es0.set (i:Int).toNat [.v (.int .i64 (k+9*(i:Int))),.v (.int .i64 ((k+9*(i:Int))+1)),.v (.int .i64 xs[i].X),.v (.int .i64 xs[i].Y),.v (.int .i64 xs[i].VX),.v (.int .i64 xs[i].VY),.v (.int .i64 xs[i].Aim),.v (.int .i64 xs[i].Life),.v (.int .i64 xs[i].Timer)]),.gh 0 (.c (.ref 0))]⟩:St)) (Ga [0,1] J (row2 (List.set_set _).symm) (.c J (.c J (.c J (.c J (.c J (.c J (.nil)))))))) ?_;refine Wz [47,123,125,3,10,105,99] ?_
  have hat2:=hset [.v (.int .i64 (k+9*(i:Int))),.v (.int .i64 ((k+9*(i:Int))+1)),.v (.int .i64 (((k+9*(i:Int))+1)+1)),.v (.int .i64 xs[i].Y),.v (.int .i64 xs[i].VX),.v (.int .i64 xs[i].VY),.v (.int .i64 xs[i].Aim),.v (.int .i64 xs[i].Life),.v (.int .i64 xs[i].Timer)]
  have hln2:=hsln [.v (.int .i64 (k+9*(i:Int))),.v (.int .i64 ((k+9*(i:Int))+1)),.v (.int .i64 (((k+9*(i:Int))+1)+1)),.v (.int .i64 xs[i].Y),.v (.int .i64 xs[i].VX),.v (.int .i64 xs[i].VY),.v (.int .i64 xs[i].Aim),.v (.int .i64 xs[i].Life),.v (.int .i64 xs[i].Timer)]
  refine AL.weak (st':=(⟨_,[(0,.o (.c (.ref 0))),(1,I ((((k+9*(i:Int))+1)+1)+1)),(5,I i),(33,.o (.c (.ref 0))),(34,I i),(35,I ((((k+9*(i:Int))+1)+1)+1))],[.row 9 (es0.set (i:Int).toNat [.v (.int .i64 (k+9*(i:Int))),.v (.int .i64 ((k+9*(i:Int))+1)),.v (.int .i64 (((k+9*(i:Int))+1)+1)),.v (.int .i64 xs[i].Y),.v (.int .i64 xs[i].VX),.v (.int .i64 xs[i].VY),.v (.int .i64 xs[i].Aim),.v (.int .i64 xs[i].Life),.v (.int .i64 xs[i].Timer)]),.gh 0 (.c (.ref 0))]⟩:St)) (Ga [0,1] J (row2 (List.set_set _).symm) (.c J (.c J (.c J (.c J (.c J (.c J (.nil)))))))) ?_;refine Wz [47,123,125,3,10,105,99] ?_
  have hat3:=hset [.v (.int .i64 (k+9*(i:Int))),.v (.int .i64 ((k+9*(i:Int))+1)),.v (.int .i64 (((k+9*(i:Int))+1)+1)),.v (.int .i64 ((((k+9*(i:Int))+1)+1)+1)),.v (.int .i64 xs[i].VX),.v (.int .i64 xs[i].VY),.v (.int .i64 xs[i].Aim),.v (.int .i64 xs[i].Life),.v (.int .i64 xs[i].Timer)]
  have hln3:=hsln [.v (.int .i64 (k+9*(i:Int))),.v (.int .i64 ((k+9*(i:Int))+1)),.v (.int .i64 (((k+9*(i:Int))+1)+1)),.v (.int .i64 ((((k+9*(i:Int))+1)+1)+1)),.v (.int .i64 xs[i].VX),.v (.int .i64 xs[i].VY),.v (.int .i64 xs[i].Aim),.v (.int .i64 xs[i].Life),.v (.int .i64 xs[i].Timer)]
  refine AL.weak (st':=(⟨_,[(0,.o (.c (.ref 0))),(1,I (((((k+9*(i:Int))+1)+1)+1)+1)),(5,I i),(40,.o (.c (.ref 0))),(41,I i),(42,I (((((k+9*(i:Int))+1)+1)+1)+1))],[.row 9 (es0.set (i:Int).toNat [.v (.int .i64 (k+9*(i:Int))),.v (.int .i64 ((k+9*(i:Int))+1)),.v (.int .i64 (((k+9*(i:Int))+1)+1)),.v (.int .i64 ((((k+9*(i:Int))+1)+1)+1)),.v (.int .i64 xs[i].VX),.v (.int .i64 xs[i].VY),.v (.int .i64 xs[i].Aim),.v (.int .i64 xs[i].Life),.v (.int .i64 xs[i].Timer)]),.gh 0 (.c (.ref 0))]⟩:St)) (Ga [0,1] J (row2 (List.set_set _).symm) (.c J (.c J (.c J (.c J (.c J (.c J (.nil)))))))) ?_;refine Wz [47,123,125,3,10,105,99] ?_
  have hat4:=hset [.v (.int .i64 (k+9*(i:Int))),.v (.int .i64 ((k+9*(i:Int))+1)),.v (.int .i64 (((k+9*(i:Int))+1)+1)),.v (.int .i64 ((((k+9*(i:Int))+1)+1)+1)),.v (.int .i64 (((((k+9*(i:Int))+1)+1)+1)+1)),.v (.int .i64 xs[i].VY),.v (.int .i64 xs[i].Aim),.v (.int .i64 xs[i].Life),.v (.int .i64 xs[i].Timer)]
  have hln4:=hsln [.v (.int .i64 (k+9*(i:Int))),.v (.int .i64 ((k+9*(i:Int))+1)),.v (.int .i64 (((k+9*(i:Int))+1)+1)),.v (.int .i64 ((((k+9*(i:Int))+1)+1)+1)),.v (.int .i64 (((((k+9*(i:Int))+1)+1)+1)+1)),.v (.int .i64 xs[i].VY),.v (.int .i64 xs[i].Aim),.v (.int .i64 xs[i].Life),.v (.int .i64 xs[i].Timer)]
  refine AL.weak (st':=(⟨_,[(0,.o (.c (.ref 0))),(1,I ((((((k+9*(i:Int))+1)+1)+1)+1)+1)),(5,I i),(47,.o (.c (.ref 0))),(48,I i),(49,I ((((((k+9*(i:Int))+1)+1)+1)+1)+1))],[.row 9 (es0.set (i:Int).toNat [.v (.int .i64 (k+9*(i:Int))),.v (.int .i64 ((k+9*(i:Int))+1)),.v (.int .i64 (((k+9*(i:Int))+1)+1)),.v (.int .i64 ((((k+9*(i:Int))+1)+1)+1)),.v (.int .i64 (((((k+9*(i:Int))+1)+1)+1)+1)),.v (.int .i64 xs[i].VY),.v (.int .i64 xs[i].Aim),.v (.int .i64 xs[i].Life),.v (.int .i64 xs[i].Timer)]),.gh 0 (.c (.ref 0))]⟩:St)) (Ga [0,1] J (row2 (List.set_set _).symm) (.c J (.c J (.c J (.c J (.c J (.c J (.nil)))))))) ?_;refine Wz [47,123,125,3,10,105,99] ?_
  have hat5:=hset [.v (.int .i64 (k+9*(i:Int))),.v (.int .i64 ((k+9*(i:Int))+1)),.v (.int .i64 (((k+9*(i:Int))+1)+1)),.v (.int .i64 ((((k+9*(i:Int))+1)+1)+1)),.v (.int .i64 (((((k+9*(i:Int))+1)+1)+1)+1)),.v (.int .i64 ((((((k+9*(i:Int))+1)+1)+1)+1)+1)),.v (.int .i64 xs[i].Aim),.v (.int .i64 xs[i].Life),.v (.int .i64 xs[i].Timer)]
  have hln5:=hsln [.v (.int .i64 (k+9*(i:Int))),.v (.int .i64 ((k+9*(i:Int))+1)),.v (.int .i64 (((k+9*(i:Int))+1)+1)),.v (.int .i64 ((((k+9*(i:Int))+1)+1)+1)),.v (.int .i64 (((((k+9*(i:Int))+1)+1)+1)+1)),.v (.int .i64 ((((((k+9*(i:Int))+1)+1)+1)+1)+1)),.v (.int .i64 xs[i].Aim),.v (.int .i64 xs[i].Life),.v (.int .i64 xs[i].Timer)]
  refine AL.weak (st':=(⟨_,[(0,.o (.c (.ref 0))),(1,I (((((((k+9*(i:Int))+1)+1)+1)+1)+1)+1)),(5,I i),(54,.o (.c (.ref 0))),(55,I i),(56,I (((((((k+9*(i:Int))+1)+1)+1)+1)+1)+1))],[.row 9 (es0.set (i:Int).toNat [.v (.int .i64 (k+9*(i:Int))),.v (.int .i64 ((k+9*(i:Int))+1)),.v (.int .i64 (((k+9*(i:Int))+1)+1)),.v (.int .i64 ((((k+9*(i:Int))+1)+1)+1)),.v (.int .i64 (((((k+9*(i:Int))+1)+1)+1)+1)),.v (.int .i64 ((((((k+9*(i:Int))+1)+1)+1)+1)+1)),.v (.int .i64 xs[i].Aim),.v (.int .i64 xs[i].Life),.v (.int .i64 xs[i].Timer)]),.gh 0 (.c (.ref 0))]⟩:St)) (Ga [0,1] J (row2 (List.set_set _).symm) (.c J (.c J (.c J (.c J (.c J (.c J (.nil)))))))) ?_;refine Wz [47,123,125,3,10,105,99] ?_
  have hat6:=hset [.v (.int .i64 (k+9*(i:Int))),.v (.int .i64 ((k+9*(i:Int))+1)),.v (.int .i64 (((k+9*(i:Int))+1)+1)),.v (.int .i64 ((((k+9*(i:Int))+1)+1)+1)),.v (.int .i64 (((((k+9*(i:Int))+1)+1)+1)+1)),.v (.int .i64 ((((((k+9*(i:Int))+1)+1)+1)+1)+1)),.v (.int .i64 (((((((k+9*(i:Int))+1)+1)+1)+1)+1)+1)),.v (.int .i64 xs[i].Life),.v (.int .i64 xs[i].Timer)]
  have hln6:=hsln [.v (.int .i64 (k+9*(i:Int))),.v (.int .i64 ((k+9*(i:Int))+1)),.v (.int .i64 (((k+9*(i:Int))+1)+1)),.v (.int .i64 ((((k+9*(i:Int))+1)+1)+1)),.v (.int .i64 (((((k+9*(i:Int))+1)+1)+1)+1)),.v (.int .i64 ((((((k+9*(i:Int))+1)+1)+1)+1)+1)),.v (.int .i64 (((((((k+9*(i:Int))+1)+1)+1)+1)+1)+1)),.v (.int .i64 xs[i].Life),.v (.int .i64 xs[i].Timer)]
  refine AL.weak (st':=(⟨_,[(0,.o (.c (.ref 0))),(1,I ((((((((k+9*(i:Int))+1)+1)+1)+1)+1)+1)+1)),(5,I i),(61,.o (.c (.ref 0))),(62,I i),(63,I ((((((((k+9*(i:Int))+1)+1)+1)+1)+1)+1)+1))],[.row 9 (es0.set (i:Int).toNat [.v (.int .i64 (k+9*(i:Int))),.v (.int .i64 ((k+9*(i:Int))+1)),.v (.int .i64 (((k+9*(i:Int))+1)+1)),.v (.int .i64 ((((k+9*(i:Int))+1)+1)+1)),.v (.int .i64 (((((k+9*(i:Int))+1)+1)+1)+1)),.v (.int .i64 ((((((k+9*(i:Int))+1)+1)+1)+1)+1)),.v (.int .i64 (((((((k+9*(i:Int))+1)+1)+1)+1)+1)+1)),.v (.int .i64 xs[i].Life),.v (.int .i64 xs[i].Timer)]),.gh 0 (.c (.ref 0))]⟩:St)) (Ga [0,1] J (row2 (List.set_set _).symm) (.c J (.c J (.c J (.c J (.c J (.c J (.nil)))))))) ?_;refine Wz [47,123,125,3,10,105,99] ?_
  have hat7:=hset [.v (.int .i64 (k+9*(i:Int))),.v (.int .i64 ((k+9*(i:Int))+1)),.v (.int .i64 (((k+9*(i:Int))+1)+1)),.v (.int .i64 ((((k+9*(i:Int))+1)+1)+1)),.v (.int .i64 (((((k+9*(i:Int))+1)+1)+1)+1)),.v (.int .i64 ((((((k+9*(i:Int))+1)+1)+1)+1)+1)),.v (.int .i64 (((((((k+9*(i:Int))+1)+1)+1)+1)+1)+1)),.v (.int .i64 ((((((((k+9*(i:Int))+1)+1)+1)+1)+1)+1)+1)),.v (.int .i64 xs[i].Timer)]
  have hln7:=hsln [.v (.int .i64 (k+9*(i:Int))),.v (.int .i64 ((k+9*(i:Int))+1)),.v (.int .i64 (((k+9*(i:Int))+1)+1)),.v (.int .i64 ((((k+9*(i:Int))+1)+1)+1)),.v (.int .i64 (((((k+9*(i:Int))+1)+1)+1)+1)),.v (.int .i64 ((((((k+9*(i:Int))+1)+1)+1)+1)+1)),.v (.int .i64 (((((((k+9*(i:Int))+1)+1)+1)+1)+1)+1)),.v (.int .i64 ((((((((k+9*(i:Int))+1)+1)+1)+1)+1)+1)+1)),.v (.int .i64 xs[i].Timer)]
  refine AL.weak (st':=(⟨_,[(0,.o (.c (.ref 0))),(1,I (((((((((k+9*(i:Int))+1)+1)+1)+1)+1)+1)+1)+1)),(5,I i),(68,.o (.c (.ref 0))),(69,I i),(70,I (((((((((k+9*(i:Int))+1)+1)+1)+1)+1)+1)+1)+1))],[.row 9 (es0.set (i:Int).toNat [.v (.int .i64 (k+9*(i:Int))),.v (.int .i64 ((k+9*(i:Int))+1)),.v (.int .i64 (((k+9*(i:Int))+1)+1)),.v (.int .i64 ((((k+9*(i:Int))+1)+1)+1)),.v (.int .i64 (((((k+9*(i:Int))+1)+1)+1)+1)),.v (.int .i64 ((((((k+9*(i:Int))+1)+1)+1)+1)+1)),.v (.int .i64 (((((((k+9*(i:Int))+1)+1)+1)+1)+1)+1)),.v (.int .i64 ((((((((k+9*(i:Int))+1)+1)+1)+1)+1)+1)+1)),.v (.int .i64 xs[i].Timer)]),.gh 0 (.c (.ref 0))]⟩:St)) (Ga [0,1] J (row2 (List.set_set _).symm) (.c J (.c J (.c J (.c J (.c J (.c J (.nil)))))))) ?_;refine Wz [47,123,125,3,33,18,104] ?_
  have hend:els ((markB xs k).take (i+1)++xs.drop (i+1))=es0.set (i:Int).toNat [.v (.int .i64 (k+9*(i:Int))),.v (.int .i64 ((k+9*(i:Int))+1)),.v (.int .i64 (((k+9*(i:Int))+1)+1)),.v (.int .i64 ((((k+9*(i:Int))+1)+1)+1)),.v (.int .i64 (((((k+9*(i:Int))+1)+1)+1)+1)),.v (.int .i64 ((((((k+9*(i:Int))+1)+1)+1)+1)+1)),.v (.int .i64 (((((((k+9*(i:Int))+1)+1)+1)+1)+1)+1)),.v (.int .i64 ((((((((k+9*(i:Int))+1)+1)+1)+1)+1)+1)+1)),.v (.int .i64 (((((((((k+9*(i:Int))+1)+1)+1)+1)+1)+1)+1)+1))]:=by
   rw[mk_nextE hml h3,markB_at,hes0]
   rfl
  exact⟨xs.length-(i+1),by omega,(fun i:Nat=>(⟨_,[(0,.o (.c (.ref 0))),(1,I (k+9*i)),(5,I i)],[.row 9 (els ((markB xs k).take i++xs.drop i)),.gh 0 (.c (.ref 0))]⟩:St)) (i+1),⟨i+1,by omega,trivial,J⟩,Ga [0,1] J (row2 (hend.trans (List.set_set _).symm)) (.c J (.cons (Xz (by omega)) (.c J (.nil))))⟩
 ·have h3:¬i<xs.length:=by have:=Gqf h; omega
  have hk2:i=xs.length:=by omega
  subst hk2
  refine Wz [89,17] ?_
  exact Gb J (Gc [0,1] J (row2 (by rw[mk_end hml (Gqk _)])) J)
end
section
open Go.RowKit

def inR (n lo hi:Int):Bool:=decide (lo≤n)&&decide (n≤hi)
theorem Za {n lo hi:Int}:inR n lo hi=true↔lo≤n∧n≤hi:=by simp[inR]
theorem Xx (n lo hi:Int):Con Tryz.prog 137 [] [ai n,ai lo,ai hi] [] (B (inR n lo hi)):=by
 refine Con.of Tryz.func137 J Tryz.ntmps137 J (fun E => ?_)
 refine Wz [32,13,216,0,156,228] ?_;refine zx (Qt.grdT J J J (.hit (.hit .stop)) (fun hgrd=>q_leq J J J J)) J ?_;refine Wz [79,17] ?_
 exact Gb J (Gc [] J J J)
theorem Ya (n lo hi:Int):Con Tryz.prog 133 [] [ai n,ai lo,ai hi] [] (B (inR n lo hi)):=by
 refine Con.of Tryz.func133 J Tryz.ntmps133 J (fun E => ?_)
 refine Wz [32,13,216,0,156,228] ?_;refine zx (Qt.grdT J J J (.hit (.hit .stop)) (fun hgrd=>q_leq J J J J)) J ?_;refine Wz [79,17] ?_
 exact Gb J (Gc [] J J J)

section
variable {α:Type} {p:α→Bool} {xs:List α} {k:Nat}
theorem Yi (h:(xs.take k).all p=true) (hk:k<xs.length) (hp:p xs[k]=true):(xs.take (k+1)).all p=true:=by
 rw[Gq1 hk,List.all_append,h]
 simp[hp]
theorem all_no (hk:k<xs.length) (hp:p xs[k]=false):xs.all p=false:=by
 rw[List.all_eq_false]
 exact⟨_,Gqj hk,by simp[hp]⟩
theorem Yh (h:(xs.take k).all p=true) (hk:xs.length≤k):xs.all p=true:=by rwa[Gq3 hk] at h
theorem G4 (h:(xs.take k).all p=true) (hk:xs.length≤k:=by omega):xs.all p=true:=Yh h hk
end
def inOk (xs:List Int):Bool:=xs.all fun n=>inR n 0 15
def rowOk (xs:List Int) (n:Int):Bool:=decide ((xs.length:Int)=n)&&inOk xs

theorem I_inputsOk (xs:List Int) (hn:Enc.gd xs):Con Tryz.prog 228 [] [al xs] [] (B (inOk xs)):=by
 have hn1:=hn.1
 have hlx:=Yx xs
 refine Con.of Tryz.func228 J Tryz.ntmps228 J (fun E => ?_)
 refine Wz [87,7,142,44] ?_;refine Xj (fun m st=>∃ k:Nat,k+m=xs.length∧((xs.take k).all (fun n=>inR n 0 15)=true)∧st=(⟨_,[(5,L xs),(6,I (els xs).length),(7,I k)],[]⟩:St)) (xs.length) ⟨_,⟨0,by omega,by simp,J⟩,Gi []⟩ ?_
 rintro m_A _ ⟨k,hk_A,hp_A,rfl⟩
 refine Wz [4,37,8] ?_
 refine Xb J (fun h => ?_) (fun h => ?_)
 ·have h3:k<xs.length:=by have:=Gqe h; omega
  have hat:=Yv h3
  refine Wz [11,4,59,49] ?_;refine zx (Qj J J (Xx xs[k] 0 15) J) J ?_;refine Wz [9,3] ?_
  refine Xb J (fun h4 => ?_) (fun h4 => ?_)
  ·refine Wz [26,191] ?_
   refine Wz [64] ?_
   exact Gb J (Gc [] J J (Xk (all_no h3 (by simpa using h4)).symm))
  ·refine Wz [157,122,299,0,51] ?_
   refine Q0 ?_
   exact⟨xs.length-(k+1),by omega,_,⟨k+1,by omega,Yi hp_A h3 (by simpa using h4),J⟩,Gi []⟩
 ·have h3:¬((k:Int)<(els xs).length):=Gqf h
  refine Wz [27,26,48] ?_
  exact Gb J (Gc [] J J (Xk (G4 hp_A).symm))
theorem I_rowOk (xs:List Int) (n:Int) (hn:Enc.gd xs):Con Tryz.prog 196 [] [al xs,ai n] [] (B (rowOk xs n)):=by
 have hlx:=Yx xs
 refine Con.of Tryz.func196 J Tryz.ntmps196 J (fun E => ?_)
 refine Wz [32,10,7,0,186,0,156] ?_;refine zx (Qt.grdT J J J (.hit .stop) (fun hgrd=>Qj J J (I_inputsOk xs hn) J)) J ?_;refine Wz [79,17] ?_
 exact Gb J (Gc [] J J (Xk (by rw[hlx]; rfl)))
theorem S_rowOk (xs:List Int) (n:Int) (hn:Enc.gd xs):Con Tryz.prog 183 [] [al xs,ai n] [] (B (rowOk xs n)):=by
 have hn1:=hn.1
 have hlx:=Yx xs
 refine Con.of Tryz.func183 J Tryz.ntmps183 J (fun E => ?_)
 refine Wz [32,46] ?_;refine Xj (fun m st=>∃ k:Nat,k+m=xs.length∧((xs.take k).all (fun n=>inR n 0 15)=true)∧st=(⟨_,[(0,L xs),(1,I n),(5,I k)],[]⟩:St)) (xs.length) ⟨_,⟨0,by omega,by simp,J⟩,Gi []⟩ ?_
 rintro m_A _ ⟨k,hk_A,hp_A,rfl⟩
 refine Wz [20,7,37] ?_
 refine Xb J (fun h => ?_) (fun h => ?_)
 ·have h3:k<xs.length:=by have:=Gqe h; omega
  have hat:=Yv h3
  refine Wz [11,13,59] ?_;refine zx (Qj J J (Ya xs[k] 0 15) J) J ?_;refine Wz [9,3] ?_
  refine Xb J (fun h4 => ?_) (fun h4 => ?_)
  ·refine Wz [26,191] ?_
   refine Wz [64] ?_
   exact Gb J (Gc [] J J (Xk (by unfold rowOk inOk; rw[all_no h3 (by simpa using h4)]; simp)))
  ·refine Wz [157,168,18] ?_
   refine Wz [2] ?_
   exact⟨xs.length-(k+1),by omega,_,⟨k+1,by omega,Yi hp_A h3 (by simpa using h4),J⟩,Gi []⟩
 ·have h3:¬((k:Int)<(els xs).length):=Gqf h
  refine Wz [89,7,0,186,17] ?_
  exact Gb J (Gc [] J J (Xk (by unfold rowOk inOk; rw[G4 hp_A,hlx]; simp)))
end
section
open Go.RowKit

abbrev Seen:=Bool×Bool×Bool×Bool
def tileM (e:Bool) (t:Int) (s:Seen×Bool):Option (Seen×Bool) :=
 if t=35 then some s else if e then none else
 if t=49 then (if s.1.1 then none else some ((true,s.1.2),true)) else
 if t=50 then (if s.1.2.1 then none else some ((s.1.1,true,s.1.2.2),true)) else
 if t=51 then (if s.1.2.2.1 then none else some ((s.1.1,s.1.2.1,true,s.1.2.2.2),true)) else
 if t=52 then (if s.1.2.2.2 then none else some ((s.1.1,s.1.2.1,s.1.2.2.1,true),true)) else
 if t=111∨t=46 then some (s.1,true) else none
def colsM (row:ByteArray) (er:Bool) (w:Nat) (s:Seen×Bool):Nat→Option (Seen×Bool)
 |0=>some s
 |c+1=>match colsM row er w s c with
  |none=>none
  |some s'=>tileM (er || decide (c=0) || decide (c+1=w)) (byteAt row c) s'
def rowsM (rows:List ByteArray) (w:Nat):Nat→Option (Seen×Bool)
 |0=>some ((false,false,false,false),false)
 | r+1=>match rowsM rows w r with
  |none=>none
  |some s=>match rows[r]? with
   |none=>none
   |some row=>if row.size=w then colsM row (decide (r=0) || decide (r+1=rows.length)) w s w else none
def widthM (rows:List ByteArray):Nat:=match rows[0]? with
 |some row=>row.size
 |none=>0
def levelOk (l:TLevel):Bool:=decide (3≤l.Rows.length)&&decide (l.Rows.length≤12)&&decide (4≤widthM l.Rows)&&decide (widthM l.Rows≤20)&&match rowsM l.Rows (widthM l.Rows) l.Rows.length with
 |some s=>s.2
 |none=>false

@[reducible] def vb (b:Bool):V1 := .rd [] (.v (.bool b))
section
variable {rows:List ByteArray} {row:ByteArray} {w k c:Nat} {s s':Seen×Bool} {er:Bool}
theorem rows_none {n:Nat} (h:rowsM rows w k=none) (hk:k≤n):rowsM rows w n=none:=by
 induction n with
 | zero => have:k=0:=by omega
           subst this; exact h
 | succ n ih =>
  rcases Gqo n k with h1 | h1
  ·have:k=n+1:=by omega
   subst this; exact h
  ·simp[rowsM,ih h1]
theorem cols_none {n:Nat} (h:colsM row er w s c=none) (hc:c≤n):colsM row er w s n=none:=by
 induction n with
 | zero => have:c=0:=by omega
           subst this; exact h
 | succ n ih =>
  rcases Gqo n c with h1 | h1
  ·have:c=n+1:=by omega
   subst this; exact h
  ·simp[colsM,ih h1]
theorem rows_next (h:rowsM rows w k=some s) (hk:k<rows.length) (hw:rows[k].size=w):rowsM rows w (k+1)=colsM rows[k] (decide (k=0) || decide (k+1=rows.length)) w s w:=by
 rw[rowsM,h]
 simp[Gqd hk,hw]
theorem rows_bad (hk:k<rows.length) (hw:rows[k].size≠w):rowsM rows w (k+1)=none:=by
 rw[rowsM]
 cases rowsM rows w k with
 |none=>rfl
 |some s=>simp[Gqd hk,hw]
theorem cols_next (h:colsM row er w s c=some s'):colsM row er w s (c+1)=tileM (er || decide (c=0) || decide (c+1=w)) (byteAt row c) s':=by
 rw[colsM,h]
theorem level_no {l:TLevel} (hk:k<l.Rows.length) (hw:widthM l.Rows=w) (h:rowsM l.Rows w (k+1)=none):levelOk l=false:=by
 unfold levelOk
 rw[hw,rows_none h (by omega)]
 simp
theorem width_at (h:0<rows.length):widthM rows=rows[0].size:=by simp[widthM,Gqd h]
end
end
section
open Go.RowKit

theorem Xu (x:TLevel) (hg:Enc.gd x):Con Tryz.prog 163 [] [ag x] [] (B (levelOk x)):=by
 obtain⟨rows⟩:=x
 have hn:Enc.gd rows:=hg
 have hn1:=hn.1
 have hlx:=Yx rows
 refine Con.of Tryz.func163 J Tryz.ntmps163 J (fun E => ?_)
 refine Wz [82,42,7,152,111,209,255,103] ?_
 refine Xb J (fun h => ?_) (fun h => ?_)
 ·simp only[Gqr,decide_eq_true_eq] at h
  refine Wz [98] ?_
  exact Gb J (Gc [] J J (Xk (by simp[levelOk]; omega)))
 simp only[Gqn,decide_eq_false_iff_not] at h
 have h0:0<rows.length:=by omega
 have hat0:(els rows)[(0:Int).toNat]? = some (Enc.e rows[0]):=Yv h0
 have hw:=width_at h0
 refine Wz [22,23,59,72,78,152,106,229,103] ?_
 refine Xb J (fun h1 => ?_) (fun h1 => ?_)
 ·simp only[Gqr,decide_eq_true_eq] at h1
  refine Wz [98] ?_
  exact Gb J (Gc [] J J (Xk (by simp[levelOk]; omega)))
 simp only[Gqn,decide_eq_false_iff_not] at h1
 obtain⟨w,hw'⟩:∃ w,w=rows[0].size:=⟨_,rfl⟩
 rw[←hw'] at hw h1
 refine Wz [22,4,66,3,32,42,7,142,44] ?_;refine Xj (fun m st=>∃ (k:Nat) (s:Seen×Bool),k+m=rows.length∧(rowsM rows w k=some s)∧st=(⟨_,[(1,.o (.c (.ptr 0 0))),(3,I w),(4,.o (.c (.ptr 1 0))),(5,B s.2),(33,L rows),(34,I (els rows).length),(35,I k)],[.box [.rd [] (sl rows)],.box [vb false,vb s.1.1,vb s.1.2.1,vb s.1.2.2.1,vb s.1.2.2.2]]⟩:St)) (rows.length) ⟨(fun (k:Nat) (s:Seen×Bool)=>(⟨_,[(1,.o (.c (.ptr 0 0))),(3,I w),(4,.o (.c (.ptr 1 0))),(5,B s.2),(33,L rows),(34,I (els rows).length),(35,I k)],[.box [.rd [] (sl rows)],.box [vb false,vb s.1.1,vb s.1.2.1,vb s.1.2.2.1,vb s.1.2.2.2]]⟩:St)) 0 (((false,false,false,false),false)),⟨0,((false,false,false,false),false),by omega,J,J⟩,Ga [0,1] J (by kernel_rfl) (.c J (.cons (Xz (by omega)) (.c J (.c J (.c J (.c J (.c J (.nil))))))))⟩ ?_
 rintro m_A _ ⟨k,s,hk_A,hp_A,rfl⟩
 refine Wz [4,37,8] ?_
 refine Xb J (fun h => ?_) (fun h => ?_)
 ·have h3:k<rows.length:=by have:=Gqe h; omega
  have hat:=Yv h3
  have hgk:rows[k].size≤9223372036854775807:=hn.2 _ (Gqj h3)
  refine Wz [107,59,38,78,72,0,150,3] ?_
  refine Xb J (fun h4 => ?_) (fun h4 => ?_)
  ·have h4:¬rows[k].size=w:=by have:=Gqe h4; omega
   refine Wz [26,62,145,64] ?_
   exact Gb J (Gc [] J J (Xk (level_no (l:=⟨rows⟩) h3 hw (rows_bad h3 h4)).symm))
  have h4:rows[k].size=w:=by have:=Gqf h4; omega
  have hrn:=rows_next hp_A h3 h4
  obtain⟨er,her⟩:∃ er,er=(decide (k=0) || decide (k+1=rows.length)):=⟨_,rfl⟩
  rw[←her] at hrn
  refine Wz [22,32,44] ?_;refine Xj (fun m st=>∃ (c:Nat) (u:Seen×Bool),c+m=w∧(colsM rows[k] er w s c=some u)∧st=(⟨_,[(1,.o (.c (.ptr 0 0))),(3,I w),(4,.o (.c (.ptr 1 0))),(5,B u.2),(6,I k),(7,S rows[k]),(8,I c),(33,L rows),(34,I (els rows).length),(35,I k)],[.box [.rd [] (sl rows)],.box [vb false,vb u.1.1,vb u.1.2.1,vb u.1.2.2.1,vb u.1.2.2.2]]⟩:St)) (w) ⟨_,⟨0,s,by omega,J,J⟩,Gi [0,1]⟩ ?_
  rintro m_D _ ⟨c,u,hk_D,hp_D,rfl⟩
  refine Wz [20,37] ?_
  refine Xb J (fun h5 => ?_) (fun h5 => ?_)
  ·have h5:c<w:=by have:=Gqe h5; omega
   have hcn:=cols_next hp_D
   obtain⟨t,ht⟩:∃ t,byteAt rows[k] (c:Int).toNat=t:=⟨_,rfl⟩
   rw[show byteAt rows[k] c=t from ht] at hcn
   have htb:0≤t∧t≤255:=ht▸Yq _ _
   obtain⟨⟨sa,sb,sc,sd⟩,so⟩:=u
   obtain⟨e,he⟩:∃ e,e=(er || decide (c=0) || decide (c+1=w)):=⟨_,rfl⟩
   rw[←he] at hcn
   refine Wz [11,13,158,49,186,106,187,200,210,295] ?_;refine zx (Vz J (.hit (.hit (.hit (.hit (.hit .stop))))) (fun hgrd=>Z5 J J J J)) J ?_;refine Wz [80,106] ?_;refine zx (Vz J (.hit .stop) (fun hgrd=>Z5 J J J J)) J ?_;refine Wz [80,106,256] ?_;refine zx (Vz J (.hit (.hit .stop)) (fun hgrd=>Xc J J J J (by omega))) J ?_;refine zx (Vz J (.hit (.hit (.hit .stop))) (fun hgrd=>Z5 J J J J)) J ?_;refine Wz [80,78,0,156,273,79,3] ?_
   have hee:(decide ((k:Int)=0) || decide ((k:Int)=((els rows).length:Int)-1) || decide ((c:Int)=0) || decide ((c:Int)=(w:Int)-1))=e:=by
    rw[he,her,hlx]
    have g1:decide ((k:Int)=0)=decide (k=0):=by simp
    have g2:decide ((k:Int)=(rows.length:Int)-1)=decide (k+1=rows.length):=decide_eq_decide.2 (by omega)
    have g3:decide ((c:Int)=0)=decide (c=0):=by simp
    have g4:decide ((c:Int)=(w:Int)-1)=decide (c+1=w):=decide_eq_decide.2 (by omega)
    rw[g1,g2,g3,g4]
   clear he her
   have hbad:colsM rows[k] er w s (c+1)=none→levelOk ⟨rows⟩=false:=fun hc=>level_no (l:=⟨rows⟩) h3 hw (hrn.trans (cols_none hc (by omega)))
   refine Xb J (fun h6 => ?_) (fun h6 => ?_)
   ·rw[hee] at h6
    simp only[Gqi,decide_eq_true_eq] at h6
    refine Wz [26,62,145,69] ?_
    exact Gb J (Gc [] J J (Xk (hbad (hcn.trans (by simp[tileM,h6]))).symm))
   rw[hee] at h6
   have h7:t=35∨e=false:=by
    simp only[Gxn,decide_eq_false_iff_not,Classical.not_not] at h6
    exact h6.symm
   clear h6 hee
   refine AWP.pre (st':=(⟨_,[(1,.o (.c (.ptr 0 0))),(3,I w),(4,.o (.c (.ptr 1 0))),(5,B so),(6,I k),(7,S rows[k]),(8,I c),(9,VI .u8 t),(33,L rows),(34,I (els rows).length),(35,I k)],[.box [.rd [] (sl rows)],.box [vb false,vb sa,vb sb,vb sc,vb sd]]⟩:St)) ?_ (Gi [0,1])
   rcases h7 with rfl | h7
   ·refine Wz [107] ?_
    refine Wz [296,0,57,6,108,10,201,0,57,6,0,57,6,108,157,122,10,201,100] ?_
    exact⟨w-(c+1),by omega,_,⟨c+1,((sa,sb,sc,sd),so),by omega,hcn.trans (by simp[tileM]),J⟩,Gi [0,1]⟩
   subst h7
   rcases (by omega:t=35∨t=49∨t=50∨t=51∨t=52∨t=111∨t=46∨(t≠35∧t≠49∧t≠50∧t≠51∧t≠52∧t≠111∧t≠46)) with rfl | rfl | rfl | rfl | rfl | rfl | rfl | ht7
   ·refine Wz [107] ?_
    refine Wz [296,0,57,6,108,10,201,0,57,6,0,57,6,108,157,122,10,201,100] ?_
    exact⟨w-(c+1),by omega,_,⟨c+1,((sa,sb,sc,sd),so),by omega,hcn.trans (by simp[tileM]),J⟩,Gi [0,1]⟩
   ·refine Wz [107] ?_
    refine Wz [202,19,217,25,2,83,40,169,218,188,3] ?_
    refine Xb J (fun h8 => ?_) (fun h8 => ?_)
    ·have h8:sa=true:=h8
     subst h8
     refine Wz [26,62,62,145,69] ?_
     exact Gb J (Gc [] J J (Xk (hbad (hcn.trans (by simp[tileM]))).symm))
    ·have h8:sa=false:=h8
     subst h8
     refine Wz [22,33,169,218,219,51,122,10,160,29,138,104] ?_
     exact⟨w-(c+1),by omega,_,⟨c+1,((true,sb,sc,sd),true),by omega,hcn.trans (by simp[tileM]),J⟩,Gi [0,1]⟩
   ·refine Wz [107] ?_
    refine Wz [202,19,217,25,2,83,40,169,218,188,3] ?_
    refine Xb J (fun h8 => ?_) (fun h8 => ?_)
    ·have h8:sb=true:=h8
     subst h8
     refine Wz [26,62,62,145,69] ?_
     exact Gb J (Gc [] J J (Xk (hbad (hcn.trans (by simp[tileM]))).symm))
    ·have h8:sb=false:=h8
     subst h8
     refine Wz [22,33,169,218,219,51,122,10,160,29,138,104] ?_
     exact⟨w-(c+1),by omega,_,⟨c+1,((sa,true,sc,sd),true),by omega,hcn.trans (by simp[tileM]),J⟩,Gi [0,1]⟩
   ·refine Wz [107] ?_
    refine Wz [202,19,217,25,2,83,40,169,218,188,3] ?_
    refine Xb J (fun h8 => ?_) (fun h8 => ?_)
    ·have h8:sc=true:=h8
     subst h8
     refine Wz [26,62,62,145,69] ?_
     exact Gb J (Gc [] J J (Xk (hbad (hcn.trans (by simp[tileM]))).symm))
    ·have h8:sc=false:=h8
     subst h8
     refine Wz [22,33,169,218,219,51,122,10,160,29,138,104] ?_
     exact⟨w-(c+1),by omega,_,⟨c+1,((sa,sb,true,sd),true),by omega,hcn.trans (by simp[tileM]),J⟩,Gi [0,1]⟩
   ·refine Wz [107] ?_
    refine Wz [202,19,217,25,2,83,40,169,218,188,3] ?_
    refine Xb J (fun h8 => ?_) (fun h8 => ?_)
    ·have h8:sd=true:=h8
     subst h8
     refine Wz [26,62,62,145,69] ?_
     exact Gb J (Gc [] J J (Xk (hbad (hcn.trans (by simp[tileM]))).symm))
    ·have h8:sd=false:=h8
     subst h8
     refine Wz [22,33,169,218,219,51,122,10,160,29,138,104] ?_
     exact⟨w-(c+1),by omega,_,⟨c+1,((sa,sb,sc,true),true),by omega,hcn.trans (by simp[tileM]),J⟩,Gi [0,1]⟩
   ·refine Wz [107] ?_
    refine Wz [202,19] ?_;refine zx (Ke (b:=false) J J J J (by decide)) J ?_;refine Wz [25,108,10,160,19,201,25,0,57,6,108,157,122,10,160,29,138,104] ?_
    exact⟨w-(c+1),by omega,_,⟨c+1,((sa,sb,sc,sd),true),by omega,hcn.trans (by simp[tileM]),J⟩,Gi [0,1]⟩
   ·refine Wz [107] ?_
    refine Wz [296,0,57,6,108,10,160,19,160,25,19,201,25,108,157,122,10,160,29,138,104] ?_
    exact⟨w-(c+1),by omega,_,⟨c+1,((sa,sb,sc,sd),true),by omega,hcn.trans (by simp[tileM]),J⟩,Gi [0,1]⟩
   ·refine Wz [107,216] ?_
    refine Wz [0,156] ?_;refine zx (Qt.grdT J J J (.hit .stop) (fun hgrd=>q_leq J J J J)) J ?_;refine Wz [79,2] ?_
    refine Xb J (fun h8 => ?_) (fun h8 => ?_)
    ·simp only[Gqi,decide_eq_true_eq] at h8
     omega
    refine Wz [10,150,0,156,273,79,0,156,273,79,2] ?_
    refine Xb J (fun h9 => ?_) (fun h9 => ?_)
    ·refine Wz [26,174,62,220] ?_
     refine Wz [62,69] ?_
     exact Gb J (Gc [] J J (Xk (hbad (hcn.trans (by simp[tileM,ht7]))).symm))
    ·simp only[Gxn,decide_eq_false_iff_not,Classical.not_not] at h9
     omega
  ·have h5:c=w:=by have:=Gqf h5; omega
   rw[h5] at hp_D
   rw[hp_D] at hrn
   refine Wz [162,163,93] ?_
   exact⟨rows.length-(k+1),by omega,_,⟨k+1,u,by omega,hrn,J⟩,Gi [0,1]⟩
 ·have h3:¬((k:Int)<(els rows).length):=Gqf h
  have hk:k=rows.length:=by omega
  subst hk
  refine Wz [89,17] ?_
  exact Gb J (Gc [] J J (Xk (by
   unfold levelOk
   rw[hw,hp_A]
   have:3≤rows.length∧rows.length≤12∧4≤w∧w≤20:=by omega
   simp[this])))
end
end Go.Proofs.YtoecjaohdnoenaaGreat
