/-
  Rules, data and contracts of functions: part 17 of the proof.
  Conditions: those that each theorem names.
-/
import Derived.Test.YtoecjaohdnoenaaGreatDDLockRowk15
set_option linter.unusedVariables false
set_option linter.unusedSimpArgs false
set_option maxRecDepth 8000
set_option maxHeartbeats 8000000
namespace Go.Proofs.YtoecjaohdnoenaaGreat
section
open Go.RowKit

structure TBody where
 Kind:Int
 Owner:Int
 X:Int
 Y:Int
 VX:Int
 VY:Int
 Aim:Int
 Life:Int
 Timer:Int
 deriving DecidableEq
instance:Enc TBody:=⟨9,by omega,fun x => [.v (.int .i64 x.Kind),.v (.int .i64 x.Owner),.v (.int .i64 x.X),.v (.int .i64 x.Y),.v (.int .i64 x.VX),.v (.int .i64 x.VY),.v (.int .i64 x.Aim),.v (.int .i64 x.Life),.v (.int .i64 x.Timer)],fun _=>rfl,fun x=>Enc.gd x.Kind∧Enc.gd x.Owner∧Enc.gd x.X∧Enc.gd x.Y∧Enc.gd x.VX∧Enc.gd x.VY∧Enc.gd x.Aim∧Enc.gd x.Life∧Enc.gd x.Timer,fun x=>0⟩
theorem TBody.same {x y:TBody} (h0:x.Kind=y.Kind) (h1:x.Owner=y.Owner) (h2:x.X=y.X) (h3:x.Y=y.Y) (h4:x.VX=y.VX) (h5:x.VY=y.VY) (h6:x.Aim=y.Aim) (h7:x.Life=y.Life) (h8:x.Timer=y.Timer):x=y:=by cases x; cases y; simp_all
structure TWorld where
 Level:TLevel
 Tick:Int
 Seed:Int
 Scores:(List Int)
 Bodies:(List TBody)
 deriving DecidableEq
instance:Enc TWorld:=⟨5,by omega,fun x => [sl x.Level.Rows,.v (.int .i64 x.Tick),.v (.int .i64 x.Seed),sl x.Scores,sl x.Bodies],fun _=>rfl,fun x=>Enc.gd x.Level∧Enc.gd x.Tick∧Enc.gd x.Seed∧Enc.gd x.Scores∧Enc.gd x.Bodies,fun x=>Enc.wt x.Level+Enc.wt x.Scores+Enc.wt x.Bodies⟩
theorem TWorld.same {x y:TWorld} (h0:x.Level=y.Level) (h1:x.Tick=y.Tick) (h2:x.Seed=y.Seed) (h3:x.Scores=y.Scores) (h4:x.Bodies=y.Bodies):x=y:=by cases x; cases y; simp_all
structure TSpectator where
 World:TWorld
 Gaps:Int
 deriving DecidableEq
instance:Enc TSpectator:=⟨6,by omega,fun x => [sl x.World.Level.Rows,.v (.int .i64 x.World.Tick),.v (.int .i64 x.World.Seed),sl x.World.Scores,sl x.World.Bodies,.v (.int .i64 x.Gaps)],fun _=>rfl,fun x=>Enc.gd x.World∧Enc.gd x.Gaps,fun x=>Enc.wt x.World⟩
theorem TSpectator.same {x y:TSpectator} (h0:x.World=y.World) (h1:x.Gaps=y.Gaps):x=y:=by cases x; cases y; simp_all

theorem to_Body (x:TBody) (hg:Enc.wt x≤1048576):Con Tryz.prog 236 [] [ag x] (ownO (Enc.e x)) (.o (.ag (ownV 0 (Enc.e x)))):=by
 refine Con.of Tryz.func236 J Tryz.ntmps236 J (fun E => ?_)
 refine Wz [98,60,5,60,29,65,65,65,65,65,65,65,65,48,30,20,94] ?_
 exact Xm J J J J (Ur [] J J J)
theorem eq_Body (x y:TBody) (hg:Enc.gd x):Con Tryz.prog 218 [] [ag x,ag y] [] (B (decide (x=y))):=by
 obtain⟨g_Kind,g_Owner,g_X,g_Y,g_VX,g_VY,g_Aim,g_Life,g_Timer⟩:=hg
 by_cases e_Kind:¬x.Kind=y.Kind
 ·have hk:decide (x.Kind≠y.Kind)=true:=by simp[e_Kind]
  refine Con.of Tryz.func218 J Tryz.ntmps218 J (fun E => ?_)
  refine Wz [45,44] ?_
  exact Uq J (Ur [] J J (Xk (Gqa fun e=>e_Kind (by rw[e])).symm))
 have e_Kind:=Classical.not_not.1 e_Kind
 have k_Kind:decide (x.Kind≠y.Kind)=false:=by simp[e_Kind]
 by_cases e_Owner:¬x.Owner=y.Owner
 ·have hk:decide (x.Owner≠y.Owner)=true:=by simp[e_Owner]
  refine Con.of Tryz.func218 J Tryz.ntmps218 J (fun E => ?_)
  refine Wz [45,111,44] ?_
  exact Uq J (Ur [] J J (Xk (Gqa fun e=>e_Owner (by rw[e])).symm))
 have e_Owner:=Classical.not_not.1 e_Owner
 have k_Owner:decide (x.Owner≠y.Owner)=false:=by simp[e_Owner]
 by_cases e_X:¬x.X=y.X
 ·have hk:decide (x.X≠y.X)=true:=by simp[e_X]
  refine Con.of Tryz.func218 J Tryz.ntmps218 J (fun E => ?_)
  refine Wz [45,114,44] ?_
  exact Uq J (Ur [] J J (Xk (Gqa fun e=>e_X (by rw[e])).symm))
 have e_X:=Classical.not_not.1 e_X
 have k_X:decide (x.X≠y.X)=false:=by simp[e_X]
 by_cases e_Y:¬x.Y=y.Y
 ·have hk:decide (x.Y≠y.Y)=true:=by simp[e_Y]
  refine Con.of Tryz.func218 J Tryz.ntmps218 J (fun E => ?_)
  refine Wz [45,114,111,44] ?_
  exact Uq J (Ur [] J J (Xk (Gqa fun e=>e_Y (by rw[e])).symm))
 have e_Y:=Classical.not_not.1 e_Y
 have k_Y:decide (x.Y≠y.Y)=false:=by simp[e_Y]
 by_cases e_VX:¬x.VX=y.VX
 ·have hk:decide (x.VX≠y.VX)=true:=by simp[e_VX]
  refine Con.of Tryz.func218 J Tryz.ntmps218 J (fun E => ?_)
  refine Wz [45,124,44] ?_
  exact Uq J (Ur [] J J (Xk (Gqa fun e=>e_VX (by rw[e])).symm))
 have e_VX:=Classical.not_not.1 e_VX
 have k_VX:decide (x.VX≠y.VX)=false:=by simp[e_VX]
 by_cases e_VY:¬x.VY=y.VY
 ·have hk:decide (x.VY≠y.VY)=true:=by simp[e_VY]
  refine Con.of Tryz.func218 J Tryz.ntmps218 J (fun E => ?_)
  refine Wz [45,124,111,44] ?_
  exact Uq J (Ur [] J J (Xk (Gqa fun e=>e_VY (by rw[e])).symm))
 have e_VY:=Classical.not_not.1 e_VY
 have k_VY:decide (x.VY≠y.VY)=false:=by simp[e_VY]
 by_cases e_Aim:¬x.Aim=y.Aim
 ·have hk:decide (x.Aim≠y.Aim)=true:=by simp[e_Aim]
  refine Con.of Tryz.func218 J Tryz.ntmps218 J (fun E => ?_)
  refine Wz [45,124,114,44] ?_
  exact Uq J (Ur [] J J (Xk (Gqa fun e=>e_Aim (by rw[e])).symm))
 have e_Aim:=Classical.not_not.1 e_Aim
 have k_Aim:decide (x.Aim≠y.Aim)=false:=by simp[e_Aim]
 by_cases e_Life:¬x.Life=y.Life
 ·have hk:decide (x.Life≠y.Life)=true:=by simp[e_Life]
  refine Con.of Tryz.func218 J Tryz.ntmps218 J (fun E => ?_)
  refine Wz [45,124,114,111,44] ?_
  exact Uq J (Ur [] J J (Xk (Gqa fun e=>e_Life (by rw[e])).symm))
 have e_Life:=Classical.not_not.1 e_Life
 have k_Life:decide (x.Life≠y.Life)=false:=by simp[e_Life]
 by_cases e_Timer:¬x.Timer=y.Timer
 ·have hk:decide (x.Timer≠y.Timer)=true:=by simp[e_Timer]
  refine Con.of Tryz.func218 J Tryz.ntmps218 J (fun E => ?_)
  refine Wz [45,124,124,44] ?_
  exact Uq J (Ur [] J J (Xk (Gqa fun e=>e_Timer (by rw[e])).symm))
 have e_Timer:=Classical.not_not.1 e_Timer
 have k_Timer:decide (x.Timer≠y.Timer)=false:=by simp[e_Timer]
 refine Con.of Tryz.func218 J Tryz.ntmps218 J (fun E => ?_)
 refine Wz [45,124,124,49,9,72] ?_
 exact Uq J (Ur [] J J (Xk (Gqb (TBody.same e_Kind e_Owner e_X e_Y e_VX e_VY e_Aim e_Life e_Timer)).symm))
theorem eq_BodyS (xs ys:List TBody) (hn:Enc.gd xs):Con Tryz.prog 141 [] [al xs,al ys] [] (B (decide (xs=ys))):=by
 have hn1:=hn.1
 have hlx:=Yc xs
 have hly:=Yc ys
 by_cases hl:xs.length=ys.length
 ·have hb:decide (((els xs).length:Int)≠((els ys).length:Int))=false:=by rw[hlx,hly,hl]; simp
  refine Con.of Tryz.func141 J Tryz.ntmps141 J (fun E => ?_)
  refine Wz [57,97,10,49,9,26] ?_;refine Xj (fun m st=>∃ k:Nat,k+m=xs.length∧(xs.take k=ys.take k)∧st=(⟨_,[(0,L xs),(1,L ys),(5,I k)],[]⟩:St)) (xs.length) ⟨_,⟨0,by omega,by simp,J⟩,Ux []⟩ ?_
  rintro m_A _ ⟨k,hk_A,hp_A,rfl⟩
  refine Wz [71] ?_
  refine Xb J (fun h => ?_) (fun h => ?_)
  ·have h3:k<xs.length:=by have:=Gqc h; omega
   have h4:k<ys.length:=by omega
   have hat:=Yb h3
   have hat2:=Yb h4
   have hc:=eq_Body xs[k] ys[k] (hn.2 _ (Gqg h3))
   by_cases he:xs[k]=ys[k]
   ·rw[Gqb he] at hc
    refine Wz [81,129,103,103] ?_;refine Kw (Qj J J (hc) J) J ?_;refine Wz [84,16,53] ?_
    exact⟨xs.length-(k+1),by omega,_,⟨k+1,by omega,Yj h3 h4 hp_A he,J⟩,Ux []⟩
   ·rw[Gqa he] at hc
    refine Wz [81,129,103,103] ?_;refine Kw (Qj J J (hc) J) J ?_;refine Wz [84,16,11,67] ?_
    exact Uq J (Ur [] J J (Xk (eq_ne h3 h4 he).symm))
  ·have h3:¬((k:Int)<(els xs).length):=Gqd h
   refine Wz [38,72] ?_
   exact Uq J (Ur [] J J (Xk (Yh (by omega) hl hp_A).symm))
 ·have hb:decide (((els xs).length:Int)≠((els ys).length:Int))=true:=by rw[hlx,hly]; simp; omega
  refine Con.of Tryz.func141 J Tryz.ntmps141 J (fun E => ?_)
  refine Wz [57,97,10,44] ?_
  exact Uq J (Ur [] J J (Xk (Yi hl).symm))
theorem wts_body:∀ xs:List TBody,wts xs=0
 | []=>rfl
 |x::xs=>by simp[wts,wts_body xs,Enc.wt]
theorem sz_BodyS (xs:List TBody) (left:Int) (hg:Enc.gd xs) (h0:0≤left) (h1:left≤1048576):Con Tryz.prog 179 [] [al xs,ai left] [] (I (szr (Enc.wt xs) left)):=by
 have hlen:=Yc xs
 have hx:=hg.1
 have hw:Enc.wt xs=xs.length:=by simp[Enc.wt,wts_body]
 refine Con.of Tryz.func179 J Tryz.ntmps179 J (fun E => ?_)
 refine Wz [22,17,10,51,66,63] ?_
 refine Xb J (fun h => ?_) (fun h => ?_)
 ·refine Wz [52] ?_
  have h2:=Gqc (p:=_) (by simpa using h)
  exact Uq J (Ur [] J J (Xs (by rw[Us])))
 ·refine Wz [25,18,4] ?_
  refine Wz [94] ?_
  have h2:=Gqd h
  exact Uq J (Ur [] J J (Xs (by rw[Ut]; omega)))
def zBody:List T := [.v (.int .i64 0),.v (.int .i64 0),.v (.int .i64 0),.v (.int .i64 0),.v (.int .i64 0),.v (.int .i64 0),.v (.int .i64 0),.v (.int .i64 0),.v (.int .i64 0)]
theorem to_BodyS (xs:List TBody) (hg:Enc.wt xs≤1048576):Con Tryz.prog 190 [] [al xs] [.row 9 (els xs)] (.o (.c (.ref 0))):=by
 have hlen:=Yc xs
 have hw:Enc.wt xs=xs.length+wts xs:=rfl
 have hw2:=wts_body xs
 refine Con.of Tryz.func190 J Tryz.ntmps190 J (fun E => ?_)
 refine Wz [22,18,10,232,4,26] ?_;refine Xj (fun m st=>∃ k:Nat,k+m=xs.length∧(True)∧st=(⟨_,[(0,L xs),(3,.o (.c (.ref 0))),(4,I k)],[.row 9 (part xs zBody k)]⟩:St)) (xs.length) ⟨(fun k:Nat=>(⟨_,[(0,L xs),(3,.o (.c (.ref 0))),(4,I k)],[.row 9 (part xs zBody k)]⟩:St)) 0,⟨0,by omega,trivial,J⟩,Up [0] J (Kb (Zc xs _)) (.c J (.c J (.c J (.nil))))⟩ ?_
 rintro m_A _ ⟨k,hk_A,hp_A,rfl⟩
 refine Wz [71] ?_
 refine Xb J (fun h => ?_) (fun h => ?_)
 ·have h3:k<xs.length:=by have:=Gqc h; omega
  have hat:=Yb h3
  have hz:=Y9 xs zBody h3
  have hpl:(k:Int)<(part xs zBody k).length:=by rw[Uu xs _]; omega
  have hc:=to_Body xs[k] (by show (0:Nat)≤_; omega)
  refine Wz [8,23,43,43,69] ?_;refine M1 (Zl J J (hc) J J J) J J ?_;refine Wz [172,173,121] ?_
  exact⟨xs.length-(k+1),by omega,(fun k:Nat=>(⟨_,[(0,L xs),(3,.o (.c (.ref 0))),(4,I k)],[.row 9 (part xs zBody k)]⟩:St)) (k+1),⟨k+1,by omega,trivial,J⟩,Up [0] J (Kb (Zb xs zBody h3 _ (by rfl) (by rfl)).symm) (.c J (.c J (.c J (.nil))))⟩
 ·have h3:¬((k:Int)<(els xs).length):=Gqd h
  refine Wz [54] ?_
  exact Uq J (Ur [0] J (Kb (Uv xs _).symm) J)
theorem sz_World (x:TWorld) (left:Int) (hg:Enc.gd x) (h0:0≤left) (h1:left≤1048576):Con Tryz.prog 97 [] [ag x,ai left] [] (I (szr (Enc.wt x) left)):=by
 obtain⟨g_Level,g_Tick,g_Seed,g_Scores,g_Bodies⟩:=hg
 have hw:Enc.wt x=Enc.wt x.Level+Enc.wt x.Scores+Enc.wt x.Bodies:=rfl
 have hm1:decide ((-1:Int)<0)=true:=rfl
 have hc_Level:=sz_Level x.Level (left) g_Level (by omega) (by omega)
 by_cases n_Level:left<Enc.wt x.Level
 ·rw[Kl n_Level] at hc_Level
  refine Con.of Tryz.func97 J Tryz.ntmps97 J (fun E => ?_)
  refine Wz [36,104] ?_;refine zx (Qj J J (hc_Level) J) J ?_;refine Wz [113,39] ?_
  exact Uq J (Ur [] J J (Xs (by rw[Us])))
 rw[Ut] at hc_Level
 have hb_Level:decide (left-Enc.wt x.Level<0)=false:=Gqa (by omega)
 have hc_Scores:=sz_IntS x.Scores (left-Enc.wt x.Level) g_Scores (by omega) (by omega)
 by_cases n_Scores:left-Enc.wt x.Level<Enc.wt x.Scores
 ·rw[Kl n_Scores] at hc_Scores
  refine Con.of Tryz.func97 J Tryz.ntmps97 J (fun E => ?_)
  refine Wz [36,104] ?_;refine zx (Qj J J (hc_Level) J) J ?_;refine Wz [41] ?_;refine zx (Qj J J (hc_Scores) J) J ?_;refine Wz [113,39] ?_
  exact Uq J (Ur [] J J (Xs (by rw[Us])))
 rw[Ut] at hc_Scores
 have hb_Scores:decide (left-Enc.wt x.Level-Enc.wt x.Scores<0)=false:=Gqa (by omega)
 have hc_Bodies:=sz_BodyS x.Bodies (left-Enc.wt x.Level-Enc.wt x.Scores) g_Bodies (by omega) (by omega)
 by_cases n_Bodies:left-Enc.wt x.Level-Enc.wt x.Scores<Enc.wt x.Bodies
 ·rw[Kl n_Bodies] at hc_Bodies
  refine Con.of Tryz.func97 J Tryz.ntmps97 J (fun E => ?_)
  refine Wz [36,104] ?_;refine zx (Qj J J (hc_Level) J) J ?_;refine Wz [41] ?_;refine zx (Qj J J (hc_Scores) J) J ?_;refine Wz [41] ?_;refine zx (Qj J J (hc_Bodies) J) J ?_;refine Wz [113,39] ?_
  exact Uq J (Ur [] J J (Xs (by rw[Us])))
 rw[Ut] at hc_Bodies
 have hb_Bodies:decide (left-Enc.wt x.Level-Enc.wt x.Scores-Enc.wt x.Bodies<0)=false:=Gqa (by omega)
 refine Con.of Tryz.func97 J Tryz.ntmps97 J (fun E => ?_)
 refine Wz [36,104] ?_;refine zx (Qj J J (hc_Level) J) J ?_;refine Wz [41] ?_;refine zx (Qj J J (hc_Scores) J) J ?_;refine Wz [41] ?_;refine zx (Qj J J (hc_Bodies) J) J ?_;refine Wz [118,160] ?_
 exact Uq J (Ur [] J J (Xs (by rw[Ut]; omega)))
theorem to_World (x:TWorld) (hg:Enc.wt x≤1048576):Con Tryz.prog 104 [] [ag x] (ownO (Enc.e x)) (.o (.ag (ownV 0 (Enc.e x)))):=by
 have hw:Enc.wt x=Enc.wt x.Level+Enc.wt x.Scores+Enc.wt x.Bodies:=rfl
 refine Con.of Tryz.func104 J Tryz.ntmps104 J (fun E => ?_)
 refine Wz [98,60,5,60,192] ?_;refine M1 (Zl J J (to_Level x.Level (by omega)) J J J) J J ?_;refine Wz [158,20,29,65,65] ?_;refine M1 (Zl J J (to_IntS x.Scores (by omega)) J J J) J J ?_;refine Wz [65] ?_;refine M1 (Zl J J (to_BodyS x.Bodies (by omega)) J J J) J J ?_;refine Wz [48,30,20,94] ?_
 exact Xm J J J J (Ur [3,4,5] J J J)
theorem eq_World (x y:TWorld) (hg:Enc.gd x):Con Tryz.prog 48 [] [ag x,ag y] [] (B (decide (x=y))):=by
 obtain⟨g_Level,g_Tick,g_Seed,g_Scores,g_Bodies⟩:=hg
 by_cases e_Level:¬x.Level=y.Level
 ·have hc:=eq_Level x.Level y.Level g_Level
  rw[Gqa e_Level] at hc
  refine Con.of Tryz.func48 J Tryz.ntmps48 J (fun E => ?_)
  refine Wz [90,78] ?_;refine zx (Qj J J (hc) J) J ?_;refine Wz [2,39] ?_
  exact Uq J (Ur [] J J (Xk (Gqa fun e=>e_Level (by rw[e])).symm))
 have e_Level:=Classical.not_not.1 e_Level
 have hc_Level:=eq_Level x.Level y.Level g_Level
 rw[Gqb e_Level] at hc_Level
 by_cases e_Tick:¬x.Tick=y.Tick
 ·have hk:decide (x.Tick≠y.Tick)=true:=by simp[e_Tick]
  refine Con.of Tryz.func48 J Tryz.ntmps48 J (fun E => ?_)
  refine Wz [90,78] ?_;refine zx (Qj J J (hc_Level) J) J ?_;refine Wz [19,44] ?_
  exact Uq J (Ur [] J J (Xk (Gqa fun e=>e_Tick (by rw[e])).symm))
 have e_Tick:=Classical.not_not.1 e_Tick
 have k_Tick:decide (x.Tick≠y.Tick)=false:=by simp[e_Tick]
 by_cases e_Seed:¬x.Seed=y.Seed
 ·have hk:decide (x.Seed≠y.Seed)=true:=by simp[e_Seed]
  refine Con.of Tryz.func48 J Tryz.ntmps48 J (fun E => ?_)
  refine Wz [90,78] ?_;refine zx (Qj J J (hc_Level) J) J ?_;refine Wz [19,111,44] ?_
  exact Uq J (Ur [] J J (Xk (Gqa fun e=>e_Seed (by rw[e])).symm))
 have e_Seed:=Classical.not_not.1 e_Seed
 have k_Seed:decide (x.Seed≠y.Seed)=false:=by simp[e_Seed]
 by_cases e_Scores:¬x.Scores=y.Scores
 ·have hc:=eq_IntS x.Scores y.Scores g_Scores
  rw[Gqa e_Scores] at hc
  refine Con.of Tryz.func48 J Tryz.ntmps48 J (fun E => ?_)
  refine Wz [90,78] ?_;refine zx (Qj J J (hc_Level) J) J ?_;refine Wz [19,114] ?_;refine zx (Qj J J (hc) J) J ?_;refine Wz [2,39] ?_
  exact Uq J (Ur [] J J (Xk (Gqa fun e=>e_Scores (by rw[e])).symm))
 have e_Scores:=Classical.not_not.1 e_Scores
 have hc_Scores:=eq_IntS x.Scores y.Scores g_Scores
 rw[Gqb e_Scores] at hc_Scores
 by_cases e_Bodies:¬x.Bodies=y.Bodies
 ·have hc:=eq_BodyS x.Bodies y.Bodies g_Bodies
  rw[Gqa e_Bodies] at hc
  refine Con.of Tryz.func48 J Tryz.ntmps48 J (fun E => ?_)
  refine Wz [90,78] ?_;refine zx (Qj J J (hc_Level) J) J ?_;refine Wz [19,114] ?_;refine zx (Qj J J (hc_Scores) J) J ?_;refine Wz [19] ?_;refine zx (Qj J J (hc) J) J ?_;refine Wz [2,39] ?_
  exact Uq J (Ur [] J J (Xk (Gqa fun e=>e_Bodies (by rw[e])).symm))
 have e_Bodies:=Classical.not_not.1 e_Bodies
 have hc_Bodies:=eq_BodyS x.Bodies y.Bodies g_Bodies
 rw[Gqb e_Bodies] at hc_Bodies
 refine Con.of Tryz.func48 J Tryz.ntmps48 J (fun E => ?_)
 refine Wz [90,78] ?_;refine zx (Qj J J (hc_Level) J) J ?_;refine Wz [19,114] ?_;refine zx (Qj J J (hc_Scores) J) J ?_;refine Wz [19] ?_;refine zx (Qj J J (hc_Bodies) J) J ?_;refine Wz [2,9,72] ?_
 exact Uq J (Ur [] J J (Xk (Gqb (TWorld.same e_Level e_Tick e_Seed e_Scores e_Bodies)).symm))
theorem sz_Spectator (x:TSpectator) (left:Int) (hg:Enc.gd x) (h0:0≤left) (h1:left≤1048576):Con Tryz.prog 205 [] [ag x,ai left] [] (I (szr (Enc.wt x) left)):=by
 obtain⟨g_World,g_Gaps⟩:=hg
 have hw:Enc.wt x=Enc.wt x.World:=rfl
 have hm1:decide ((-1:Int)<0)=true:=rfl
 have hc_World:=sz_World x.World (left) g_World (by omega) (by omega)
 by_cases n_World:left<Enc.wt x.World
 ·rw[Kl n_World] at hc_World
  refine Con.of Tryz.func205 J Tryz.ntmps205 J (fun E => ?_)
  refine Wz [36,104] ?_;refine zx (Qj J J (hc_World) J) J ?_;refine Wz [113,39] ?_
  exact Uq J (Ur [] J J (Xs (by rw[Us])))
 rw[Ut] at hc_World
 have hb_World:decide (left-Enc.wt x.World<0)=false:=Gqa (by omega)
 refine Con.of Tryz.func205 J Tryz.ntmps205 J (fun E => ?_)
 refine Wz [36,104] ?_;refine zx (Qj J J (hc_World) J) J ?_;refine Wz [118,160] ?_
 exact Uq J (Ur [] J J (Xs (by rw[Ut]; omega)))
theorem to_Spectator (x:TSpectator) (hg:Enc.wt x≤1048576):Con Tryz.prog 209 [] [ag x] (ownO (Enc.e x)) (.o (.ag (ownV 0 (Enc.e x)))):=by
 have hw:Enc.wt x=Enc.wt x.World:=rfl
 refine Con.of Tryz.func209 J Tryz.ntmps209 J (fun E => ?_)
 refine Wz [98,60,5,60,192] ?_;refine M1 (Zl J J (to_World x.World (by omega)) J J J) J J ?_;refine Wz [158,20,29,48,30,20,94] ?_
 exact Xm J J J J (Ur [3,4,5] J J J)
theorem eq_Spectator (x y:TSpectator) (hg:Enc.gd x):Con Tryz.prog 169 [] [ag x,ag y] [] (B (decide (x=y))):=by
 obtain⟨g_World,g_Gaps⟩:=hg
 by_cases e_World:¬x.World=y.World
 ·have hc:=eq_World x.World y.World g_World
  rw[Gqa e_World] at hc
  refine Con.of Tryz.func169 J Tryz.ntmps169 J (fun E => ?_)
  refine Wz [90,78] ?_;refine zx (Qj J J (hc) J) J ?_;refine Wz [2,39] ?_
  exact Uq J (Ur [] J J (Xk (Gqa fun e=>e_World (by rw[e])).symm))
 have e_World:=Classical.not_not.1 e_World
 have hc_World:=eq_World x.World y.World g_World
 rw[Gqb e_World] at hc_World
 by_cases e_Gaps:¬x.Gaps=y.Gaps
 ·have hk:decide (x.Gaps≠y.Gaps)=true:=by simp[e_Gaps]
  refine Con.of Tryz.func169 J Tryz.ntmps169 J (fun E => ?_)
  refine Wz [90,78] ?_;refine zx (Qj J J (hc_World) J) J ?_;refine Wz [19,44] ?_
  exact Uq J (Ur [] J J (Xk (Gqa fun e=>e_Gaps (by rw[e])).symm))
 have e_Gaps:=Classical.not_not.1 e_Gaps
 have k_Gaps:decide (x.Gaps≠y.Gaps)=false:=by simp[e_Gaps]
 refine Con.of Tryz.func169 J Tryz.ntmps169 J (fun E => ?_)
 refine Wz [90,78] ?_;refine zx (Qj J J (hc_World) J) J ?_;refine Wz [19,49,9,72] ?_
 exact Uq J (Ur [] J J (Xk (Gqb (TSpectator.same e_World e_Gaps)).symm))

/-! ### Marks -/
theorem mk_nextE {α:Type} [Enc α] {ms xs:List α} (hl:ms.length=xs.length) {i:Nat} (h:i<xs.length):els (ms.take (i+1)++xs.drop (i+1))=(els (ms.take i++xs.drop i)).set i (Enc.e (ms[i]'(by omega))):=by
 have h2:i<ms.length:=by omega
 rw[←Ye]
 congr 1
 have hi:(ms.take i).length=i:=by simp; omega
 rw[Gq4 h2,List.set_append_right _ _ (by omega)]
 have:i-(ms.take i).length=0:=by omega
 rw[this,Gxi h,List.set_cons_zero,Gq6]
 rfl
def markBody (k:Int):TBody:=⟨k,k+1,k+1+1,k+1+1+1,k+1+1+1+1,k+1+1+1+1+1,k+1+1+1+1+1+1,k+1+1+1+1+1+1+1,k+1+1+1+1+1+1+1+1⟩
def markB (xs:List TBody) (k:Int):List TBody:=(List.range xs.length).map fun (i:Nat)=>markBody (k+9*i)
theorem markB_len (xs:List TBody) (k:Int):(markB xs k).length=xs.length:=by simp[markB]
theorem markB_at {xs:List TBody} {k:Int} {i:Nat} (h:i<(markB xs k).length):(markB xs k)[i]=markBody (k+9*i):=by simp[markB]
theorem L_markBodyS (xs:List TBody) (k:Int) (hL:xs.length≤1048576) (h0:0<k) (hk:k≤4294967296):Con Tryz.prog 142 [.row 9 (els xs),.gh 0 (.c (.ref 0))] [.c (.ref 0),ai k] [.row 9 (els (markB xs k)),.gh 0 (.c (.ref 0))] (I (k+9*xs.length)):=by
 have hml:=markB_len xs k
 refine Con.of Tryz.func142 J Tryz.ntmps142 J (fun E => ?_)
 refine Wz [22,26] ?_;refine Xj (fun m st=>∃ i:Nat,i+m=xs.length∧(True)∧st=(⟨_,[(0,.o (.c (.ref 0))),(1,I (k+9*i)),(5,I i)],[.row 9 (els ((markB xs k).take i++xs.drop i)),.gh 0 (.c (.ref 0))]⟩:St)) (xs.length) ⟨(fun i:Nat=>(⟨_,[(0,.o (.c (.ref 0))),(1,I (k+9*i)),(5,I i)],[.row 9 (els ((markB xs k).take i++xs.drop i)),.gh 0 (.c (.ref 0))]⟩:St)) 0,⟨0,by omega,trivial,J⟩,Up [0,1] J (by kernel_rfl) (.c J (.cons (Xs (by simp)) (.c J (.nil))))⟩ ?_
 rintro m_A _ ⟨i,hk_A,hp_A,rfl⟩
 have hll:(els ((markB xs k).take i++xs.drop i)).length=xs.length:=by rw[Yc,mk_len hml (by omega)]
 refine Wz [13,33,63] ?_
 refine Xb J (fun h => ?_) (fun h => ?_)
 ·have h3:i<xs.length:=by have:=Gqc h; omega
  have hi:i<((markB xs k).take i++xs.drop i).length:=by rw[mk_len hml (by omega)]; exact h3
  have hat:=Yb hi
  rw[mk_at hml h3] at hat
  obtain⟨es0,hes0⟩:∃ es0,es0=els ((markB xs k).take i++xs.drop i):=⟨_,rfl⟩
  rw[←hes0] at hll hat
  have hq:(i:Int).toNat<es0.length:=by omega
  have hset:∀ L:List T,(es0.set (i:Int).toNat L)[(i:Int).toNat]? = some L:=fun L=>Gq9 hq
  have hsln:∀ L:List T,(es0.set (i:Int).toNat L).length=xs.length:=fun L=>by rw[Gqs]; exact hll
  rw[hes0.symm]
  refine Wz [8,139,68,61,112,77,139] ?_
  have hat0:=hset [.v (.int .i64 (k+9*(i:Int))),.v (.int .i64 xs[i].Owner),.v (.int .i64 xs[i].X),.v (.int .i64 xs[i].Y),.v (.int .i64 xs[i].VX),.v (.int .i64 xs[i].VY),.v (.int .i64 xs[i].Aim),.v (.int .i64 xs[i].Life),.v (.int .i64 xs[i].Timer)]
  have hln0:=hsln [.v (.int .i64 (k+9*(i:Int))),.v (.int .i64 xs[i].Owner),.v (.int .i64 xs[i].X),.v (.int .i64 xs[i].Y),.v (.int .i64 xs[i].VX),.v (.int .i64 xs[i].VY),.v (.int .i64 xs[i].Aim),.v (.int .i64 xs[i].Life),.v (.int .i64 xs[i].Timer)]
  refine AL.weak (st':=(⟨_,[(0,.o (.c (.ref 0))),(1,I ((k+9*(i:Int))+1)),(5,I i),(19,.o (.c (.ref 0))),(20,I i),(21,I ((k+9*(i:Int))+1))],[.row 9 (es0.set (i:Int).toNat [.v (.int .i64 (k+9*(i:Int))),.v (.int .i64 xs[i].Owner),.v (.int .i64 xs[i].X),.v (.int .i64 xs[i].Y),.v (.int .i64 xs[i].VX),.v (.int .i64 xs[i].VY),.v (.int .i64 xs[i].Aim),.v (.int .i64 xs[i].Life),.v (.int .i64 xs[i].Timer)]),.gh 0 (.c (.ref 0))]⟩:St)) (Up [0,1] J (row2 J) (.c J (.c J (.c J (.c J (.c J (.c J (.nil)))))))) ?_;refine Wz [68,61,112,77,139] ?_
  have hat1:=hset [.v (.int .i64 (k+9*(i:Int))),.v (.int .i64 ((k+9*(i:Int))+1)),.v (.int .i64 xs[i].X),.v (.int .i64 xs[i].Y),.v (.int .i64 xs[i].VX),.v (.int .i64 xs[i].VY),.v (.int .i64 xs[i].Aim),.v (.int .i64 xs[i].Life),.v (.int .i64 xs[i].Timer)]
  have hln1:=hsln [.v (.int .i64 (k+9*(i:Int))),.v (.int .i64 ((k+9*(i:Int))+1)),.v (.int .i64 xs[i].X),.v (.int .i64 xs[i].Y),.v (.int .i64 xs[i].VX),.v (.int .i64 xs[i].VY),.v (.int .i64 xs[i].Aim),.v (.int .i64 xs[i].Life),.v (.int .i64 xs[i].Timer)]
  refine AL.weak (st':=(⟨_,[(0,.o (.c (.ref 0))),(1,I (((k+9*(i:Int))+1)+1)),(5,I i),(26,.o (.c (.ref 0))),(27,I i),(28,I (((k+9*(i:Int))+1)+1))],[.row 9 (es0.set (i:Int).toNat [.v (.int .i64 (k+9*(i:Int))),.v (.int .i64 ((k+9*(i:Int))+1)),.v (.int .i64 xs[i].X),.v (.int .i64 xs[i].Y),.v (.int .i64 xs[i].VX),.v (.int .i64 xs[i].VY),.v (.int .i64 xs[i].Aim),.v (.int .i64 xs[i].Life),.v (.int .i64 xs[i].Timer)]),.gh 0 (.c (.ref 0))]⟩:St)) (Up [0,1] J (row2 (List.set_set _).symm) (.c J (.c J (.c J (.c J (.c J (.c J (.nil)))))))) ?_;refine Wz [68,61,112,77,139] ?_
  have hat2:=hset [.v (.int .i64 (k+9*(i:Int))),.v (.int .i64 ((k+9*(i:Int))+1)),.v (.int .i64 (((k+9*(i:Int))+1)+1)),.v (.int .i64 xs[i].Y),.v (.int .i64 xs[i].VX),.v (.int .i64 xs[i].VY),.v (.int .i64 xs[i].Aim),.v (.int .i64 xs[i].Life),.v (.int .i64 xs[i].Timer)]
  have hln2:=hsln [.v (.int .i64 (k+9*(i:Int))),.v (.int .i64 ((k+9*(i:Int))+1)),.v (.int .i64 (((k+9*(i:Int))+1)+1)),.v (.int .i64 xs[i].Y),.v (.int .i64 xs[i].VX),.v (.int .i64 xs[i].VY),.v (.int .i64 xs[i].Aim),.v (.int .i64 xs[i].Life),.v (.int .i64 xs[i].Timer)]
  refine AL.weak (st':=(⟨_,[(0,.o (.c (.ref 0))),(1,I ((((k+9*(i:Int))+1)+1)+1)),(5,I i),(33,.o (.c (.ref 0))),(34,I i),(35,I ((((k+9*(i:Int))+1)+1)+1))],[.row 9 (es0.set (i:Int).toNat [.v (.int .i64 (k+9*(i:Int))),.v (.int .i64 ((k+9*(i:Int))+1)),.v (.int .i64 (((k+9*(i:Int))+1)+1)),.v (.int .i64 xs[i].Y),.v (.int .i64 xs[i].VX),.v (.int .i64 xs[i].VY),.v (.int .i64 xs[i].Aim),.v (.int .i64 xs[i].Life),.v (.int .i64 xs[i].Timer)]),.gh 0 (.c (.ref 0))]⟩:St)) (Up [0,1] J (row2 (List.set_set _).symm) (.c J (.c J (.c J (.c J (.c J (.c J (.nil)))))))) ?_;refine Wz [68,61,112,77,139] ?_
  have hat3:=hset [.v (.int .i64 (k+9*(i:Int))),.v (.int .i64 ((k+9*(i:Int))+1)),.v (.int .i64 (((k+9*(i:Int))+1)+1)),.v (.int .i64 ((((k+9*(i:Int))+1)+1)+1)),.v (.int .i64 xs[i].VX),.v (.int .i64 xs[i].VY),.v (.int .i64 xs[i].Aim),.v (.int .i64 xs[i].Life),.v (.int .i64 xs[i].Timer)]
  have hln3:=hsln [.v (.int .i64 (k+9*(i:Int))),.v (.int .i64 ((k+9*(i:Int))+1)),.v (.int .i64 (((k+9*(i:Int))+1)+1)),.v (.int .i64 ((((k+9*(i:Int))+1)+1)+1)),.v (.int .i64 xs[i].VX),.v (.int .i64 xs[i].VY),.v (.int .i64 xs[i].Aim),.v (.int .i64 xs[i].Life),.v (.int .i64 xs[i].Timer)]
  refine AL.weak (st':=(⟨_,[(0,.o (.c (.ref 0))),(1,I (((((k+9*(i:Int))+1)+1)+1)+1)),(5,I i),(40,.o (.c (.ref 0))),(41,I i),(42,I (((((k+9*(i:Int))+1)+1)+1)+1))],[.row 9 (es0.set (i:Int).toNat [.v (.int .i64 (k+9*(i:Int))),.v (.int .i64 ((k+9*(i:Int))+1)),.v (.int .i64 (((k+9*(i:Int))+1)+1)),.v (.int .i64 ((((k+9*(i:Int))+1)+1)+1)),.v (.int .i64 xs[i].VX),.v (.int .i64 xs[i].VY),.v (.int .i64 xs[i].Aim),.v (.int .i64 xs[i].Life),.v (.int .i64 xs[i].Timer)]),.gh 0 (.c (.ref 0))]⟩:St)) (Up [0,1] J (row2 (List.set_set _).symm) (.c J (.c J (.c J (.c J (.c J (.c J (.nil)))))))) ?_;refine Wz [68,61,112,77,139] ?_
  have hat4:=hset [.v (.int .i64 (k+9*(i:Int))),.v (.int .i64 ((k+9*(i:Int))+1)),.v (.int .i64 (((k+9*(i:Int))+1)+1)),.v (.int .i64 ((((k+9*(i:Int))+1)+1)+1)),.v (.int .i64 (((((k+9*(i:Int))+1)+1)+1)+1)),.v (.int .i64 xs[i].VY),.v (.int .i64 xs[i].Aim),.v (.int .i64 xs[i].Life),.v (.int .i64 xs[i].Timer)]
  have hln4:=hsln [.v (.int .i64 (k+9*(i:Int))),.v (.int .i64 ((k+9*(i:Int))+1)),.v (.int .i64 (((k+9*(i:Int))+1)+1)),.v (.int .i64 ((((k+9*(i:Int))+1)+1)+1)),.v (.int .i64 (((((k+9*(i:Int))+1)+1)+1)+1)),.v (.int .i64 xs[i].VY),.v (.int .i64 xs[i].Aim),.v (.int .i64 xs[i].Life),.v (.int .i64 xs[i].Timer)]
  refine AL.weak (st':=(⟨_,[(0,.o (.c (.ref 0))),(1,I ((((((k+9*(i:Int))+1)+1)+1)+1)+1)),(5,I i),(47,.o (.c (.ref 0))),(48,I i),(49,I ((((((k+9*(i:Int))+1)+1)+1)+1)+1))],[.row 9 (es0.set (i:Int).toNat [.v (.int .i64 (k+9*(i:Int))),.v (.int .i64 ((k+9*(i:Int))+1)),.v (.int .i64 (((k+9*(i:Int))+1)+1)),.v (.int .i64 ((((k+9*(i:Int))+1)+1)+1)),.v (.int .i64 (((((k+9*(i:Int))+1)+1)+1)+1)),.v (.int .i64 xs[i].VY),.v (.int .i64 xs[i].Aim),.v (.int .i64 xs[i].Life),.v (.int .i64 xs[i].Timer)]),.gh 0 (.c (.ref 0))]⟩:St)) (Up [0,1] J (row2 (List.set_set _).symm) (.c J (.c J (.c J (.c J (.c J (.c J (.nil)))))))) ?_;refine Wz [68,61,112,77,139] ?_
  have hat5:=hset [.v (.int .i64 (k+9*(i:Int))),.v (.int .i64 ((k+9*(i:Int))+1)),.v (.int .i64 (((k+9*(i:Int))+1)+1)),.v (.int .i64 ((((k+9*(i:Int))+1)+1)+1)),.v (.int .i64 (((((k+9*(i:Int))+1)+1)+1)+1)),.v (.int .i64 ((((((k+9*(i:Int))+1)+1)+1)+1)+1)),.v (.int .i64 xs[i].Aim),.v (.int .i64 xs[i].Life),.v (.int .i64 xs[i].Timer)]
  have hln5:=hsln [.v (.int .i64 (k+9*(i:Int))),.v (.int .i64 ((k+9*(i:Int))+1)),.v (.int .i64 (((k+9*(i:Int))+1)+1)),.v (.int .i64 ((((k+9*(i:Int))+1)+1)+1)),.v (.int .i64 (((((k+9*(i:Int))+1)+1)+1)+1)),.v (.int .i64 ((((((k+9*(i:Int))+1)+1)+1)+1)+1)),.v (.int .i64 xs[i].Aim),.v (.int .i64 xs[i].Life),.v (.int .i64 xs[i].Timer)]
  refine AL.weak (st':=(⟨_,[(0,.o (.c (.ref 0))),(1,I (((((((k+9*(i:Int))+1)+1)+1)+1)+1)+1)),(5,I i),(54,.o (.c (.ref 0))),(55,I i),(56,I (((((((k+9*(i:Int))+1)+1)+1)+1)+1)+1))],[.row 9 (es0.set (i:Int).toNat [.v (.int .i64 (k+9*(i:Int))),.v (.int .i64 ((k+9*(i:Int))+1)),.v (.int .i64 (((k+9*(i:Int))+1)+1)),.v (.int .i64 ((((k+9*(i:Int))+1)+1)+1)),.v (.int .i64 (((((k+9*(i:Int))+1)+1)+1)+1)),.v (.int .i64 ((((((k+9*(i:Int))+1)+1)+1)+1)+1)),.v (.int .i64 xs[i].Aim),.v (.int .i64 xs[i].Life),.v (.int .i64 xs[i].Timer)]),.gh 0 (.c (.ref 0))]⟩:St)) (Up [0,1] J (row2 (List.set_set _).symm) (.c J (.c J (.c J (.c J (.c J (.c J (.nil)))))))) ?_;refine Wz [68,61,112,77,139] ?_
  have hat6:=hset [.v (.int .i64 (k+9*(i:Int))),.v (.int .i64 ((k+9*(i:Int))+1)),.v (.int .i64 (((k+9*(i:Int))+1)+1)),.v (.int .i64 ((((k+9*(i:Int))+1)+1)+1)),.v (.int .i64 (((((k+9*(i:Int))+1)+1)+1)+1)),.v (.int .i64 ((((((k+9*(i:Int))+1)+1)+1)+1)+1)),.v (.int .i64 (((((((k+9*(i:Int))+1)+1)+1)+1)+1)+1)),.v (.int .i64 xs[i].Life),.v (.int .i64 xs[i].Timer)]
  have hln6:=hsln [.v (.int .i64 (k+9*(i:Int))),.v (.int .i64 ((k+9*(i:Int))+1)),.v (.int .i64 (((k+9*(i:Int))+1)+1)),.v (.int .i64 ((((k+9*(i:Int))+1)+1)+1)),.v (.int .i64 (((((k+9*(i:Int))+1)+1)+1)+1)),.v (.int .i64 ((((((k+9*(i:Int))+1)+1)+1)+1)+1)),.v (.int .i64 (((((((k+9*(i:Int))+1)+1)+1)+1)+1)+1)),.v (.int .i64 xs[i].Life),.v (.int .i64 xs[i].Timer)]
  refine AL.weak (st':=(⟨_,[(0,.o (.c (.ref 0))),(1,I ((((((((k+9*(i:Int))+1)+1)+1)+1)+1)+1)+1)),(5,I i),(61,.o (.c (.ref 0))),(62,I i),(63,I ((((((((k+9*(i:Int))+1)+1)+1)+1)+1)+1)+1))],[.row 9 (es0.set (i:Int).toNat [.v (.int .i64 (k+9*(i:Int))),.v (.int .i64 ((k+9*(i:Int))+1)),.v (.int .i64 (((k+9*(i:Int))+1)+1)),.v (.int .i64 ((((k+9*(i:Int))+1)+1)+1)),.v (.int .i64 (((((k+9*(i:Int))+1)+1)+1)+1)),.v (.int .i64 ((((((k+9*(i:Int))+1)+1)+1)+1)+1)),.v (.int .i64 (((((((k+9*(i:Int))+1)+1)+1)+1)+1)+1)),.v (.int .i64 xs[i].Life),.v (.int .i64 xs[i].Timer)]),.gh 0 (.c (.ref 0))]⟩:St)) (Up [0,1] J (row2 (List.set_set _).symm) (.c J (.c J (.c J (.c J (.c J (.c J (.nil)))))))) ?_;refine Wz [68,61,112,77,139] ?_
  have hat7:=hset [.v (.int .i64 (k+9*(i:Int))),.v (.int .i64 ((k+9*(i:Int))+1)),.v (.int .i64 (((k+9*(i:Int))+1)+1)),.v (.int .i64 ((((k+9*(i:Int))+1)+1)+1)),.v (.int .i64 (((((k+9*(i:Int))+1)+1)+1)+1)),.v (.int .i64 ((((((k+9*(i:Int))+1)+1)+1)+1)+1)),.v (.int .i64 (((((((k+9*(i:Int))+1)+1)+1)+1)+1)+1)),.v (.int .i64 ((((((((k+9*(i:Int))+1)+1)+1)+1)+1)+1)+1)),.v (.int .i64 xs[i].Timer)]
  have hln7:=hsln [.v (.int .i64 (k+9*(i:Int))),.v (.int .i64 ((k+9*(i:Int))+1)),.v (.int .i64 (((k+9*(i:Int))+1)+1)),.v (.int .i64 ((((k+9*(i:Int))+1)+1)+1)),.v (.int .i64 (((((k+9*(i:Int))+1)+1)+1)+1)),.v (.int .i64 ((((((k+9*(i:Int))+1)+1)+1)+1)+1)),.v (.int .i64 (((((((k+9*(i:Int))+1)+1)+1)+1)+1)+1)),.v (.int .i64 ((((((((k+9*(i:Int))+1)+1)+1)+1)+1)+1)+1)),.v (.int .i64 xs[i].Timer)]
  refine AL.weak (st':=(⟨_,[(0,.o (.c (.ref 0))),(1,I (((((((((k+9*(i:Int))+1)+1)+1)+1)+1)+1)+1)+1)),(5,I i),(68,.o (.c (.ref 0))),(69,I i),(70,I (((((((((k+9*(i:Int))+1)+1)+1)+1)+1)+1)+1)+1))],[.row 9 (es0.set (i:Int).toNat [.v (.int .i64 (k+9*(i:Int))),.v (.int .i64 ((k+9*(i:Int))+1)),.v (.int .i64 (((k+9*(i:Int))+1)+1)),.v (.int .i64 ((((k+9*(i:Int))+1)+1)+1)),.v (.int .i64 (((((k+9*(i:Int))+1)+1)+1)+1)),.v (.int .i64 ((((((k+9*(i:Int))+1)+1)+1)+1)+1)),.v (.int .i64 (((((((k+9*(i:Int))+1)+1)+1)+1)+1)+1)),.v (.int .i64 ((((((((k+9*(i:Int))+1)+1)+1)+1)+1)+1)+1)),.v (.int .i64 xs[i].Timer)]),.gh 0 (.c (.ref 0))]⟩:St)) (Up [0,1] J (row2 (List.set_set _).symm) (.c J (.c J (.c J (.c J (.c J (.c J (.nil)))))))) ?_;refine Wz [68,61,112,6,23,95,99] ?_
  have hend:els ((markB xs k).take (i+1)++xs.drop (i+1))=es0.set (i:Int).toNat [.v (.int .i64 (k+9*(i:Int))),.v (.int .i64 ((k+9*(i:Int))+1)),.v (.int .i64 (((k+9*(i:Int))+1)+1)),.v (.int .i64 ((((k+9*(i:Int))+1)+1)+1)),.v (.int .i64 (((((k+9*(i:Int))+1)+1)+1)+1)),.v (.int .i64 ((((((k+9*(i:Int))+1)+1)+1)+1)+1)),.v (.int .i64 (((((((k+9*(i:Int))+1)+1)+1)+1)+1)+1)),.v (.int .i64 ((((((((k+9*(i:Int))+1)+1)+1)+1)+1)+1)+1)),.v (.int .i64 (((((((((k+9*(i:Int))+1)+1)+1)+1)+1)+1)+1)+1))]:=by
   rw[mk_nextE hml h3,markB_at,hes0]
   rfl
  exact⟨xs.length-(i+1),by omega,(fun i:Nat=>(⟨_,[(0,.o (.c (.ref 0))),(1,I (k+9*i)),(5,I i)],[.row 9 (els ((markB xs k).take i++xs.drop i)),.gh 0 (.c (.ref 0))]⟩:St)) (i+1),⟨i+1,by omega,trivial,J⟩,Up [0,1] J (row2 (hend.trans (List.set_set _).symm)) (.c J (.cons (Xs (by omega)) (.c J (.nil))))⟩
 ·have h3:¬i<xs.length:=by have:=Gqd h; omega
  have hk2:i=xs.length:=by omega
  subst hk2
  refine Wz [54] ?_
  exact Uq J (Ur [0,1] J (row2 (by rw[mk_end hml (Gqi _)])) J)
theorem L_heldBodyS (xs:List TBody) (k:Int) (hL:xs.length≤1048576) (h0:0<k) (hk:k≤4294967296):Con Tryz.prog 144 [] [al (markB xs k),ai k] [] (I (k+9*xs.length)):=by
 have hml:=markB_len xs k
 have hlx:=Yc (markB xs k)
 refine Con.of Tryz.func144 J Tryz.ntmps144 J (fun E => ?_)
 refine Wz [22,26] ?_;refine Xj (fun m st=>∃ i:Nat,i+m=xs.length∧(True)∧st=(⟨_,[(0,L (markB xs k)),(1,I (k+9*i)),(5,I i)],[]⟩:St)) (xs.length) ⟨(fun i:Nat=>(⟨_,[(0,L (markB xs k)),(1,I (k+9*i)),(5,I i)],[]⟩:St)) 0,⟨0,by omega,trivial,J⟩,Up [] J (by kernel_rfl) (.c J (.cons (Xs (by simp)) (.c J (.nil))))⟩ ?_
 rintro m_A _ ⟨i,hk_A,hp_A,rfl⟩
 refine Wz [71] ?_
 refine Xb J (fun h => ?_) (fun h => ?_)
 ·have h3:i<(markB xs k).length:=by have:=Gqc h; omega
  have hat:=Yb h3
  rw[markB_at h3] at hat
  refine Wz [8,13,148,174,154,0,187,9,18,130,13,148,174,154,0,187,9,18,130,13,148,174,154,0,187,9,18,130,13,148,174,154,0,187,9,18,130,13,148,174,154,0,187,9,18,130,13,148,174,154,0,187,9,18,130,13,148,174,154,0,187,9,18,130,13,148,174,154,0,187,9,18,130,13,148,174,154,0,187,9,23,95,99] ?_
  exact⟨xs.length-(i+1),by omega,(fun i:Nat=>(⟨_,[(0,L (markB xs k)),(1,I (k+9*i)),(5,I i)],[]⟩:St)) (i+1),⟨i+1,by omega,trivial,J⟩,Up [] J (by kernel_rfl) (.c J (.cons (Xs (by omega)) (.c J (.nil))))⟩
 ·have h3:¬i<(markB xs k).length:=by have:=Gqd h; omega
  have hk2:i=xs.length:=by omega
  subst hk2
  refine Wz [54] ?_
  exact Uq J (Ur [] J J J)
end
section
open Go.RowKit

structure TTrack where
 Inputs:(List Int)
 deriving DecidableEq
instance:Enc TTrack:=⟨1,by omega,fun x => [sl x.Inputs],fun _=>rfl,fun x=>Enc.gd x.Inputs,fun x=>Enc.wt x.Inputs⟩
theorem TTrack.same {x y:TTrack} (h0:x.Inputs=y.Inputs):x=y:=by cases x; cases y; simp_all
structure TSave where
 Tick:Int
 Delta:ByteArray
 deriving DecidableEq
instance:Enc TSave:=⟨2,by omega,fun x => [.v (.int .i64 x.Tick),.v (.string x.Delta)],fun _=>rfl,fun x=>Enc.gd x.Tick∧Enc.gd x.Delta,fun x=>Enc.wt x.Delta⟩
theorem TSave.same {x y:TSave} (h0:x.Tick=y.Tick) (h1:x.Delta=y.Delta):x=y:=by cases x; cases y; simp_all
structure TFault where
 Tick:Int
 Player:Int
 Add:Int
 deriving DecidableEq
instance:Enc TFault:=⟨3,by omega,fun x => [.v (.int .i64 x.Tick),.v (.int .i64 x.Player),.v (.int .i64 x.Add)],fun _=>rfl,fun x=>Enc.gd x.Tick∧Enc.gd x.Player∧Enc.gd x.Add,fun x=>0⟩
theorem TFault.same {x y:TFault} (h0:x.Tick=y.Tick) (h1:x.Player=y.Player) (h2:x.Add=y.Add):x=y:=by cases x; cases y; simp_all
structure TPacket where
 From:Int
 Tick:Int
 First:Int
 Inputs:(List Int)
 Acks:(List Int)
 SumTick:Int
 Sum:Int
 Time:Int
 Echo:Int
 deriving DecidableEq
instance:Enc TPacket:=⟨9,by omega,fun x => [.v (.int .i64 x.From),.v (.int .i64 x.Tick),.v (.int .i64 x.First),sl x.Inputs,sl x.Acks,.v (.int .i64 x.SumTick),.v (.int .i64 x.Sum),.v (.int .i64 x.Time),.v (.int .i64 x.Echo)],fun _=>rfl,fun x=>Enc.gd x.From∧Enc.gd x.Tick∧Enc.gd x.First∧Enc.gd x.Inputs∧Enc.gd x.Acks∧Enc.gd x.SumTick∧Enc.gd x.Sum∧Enc.gd x.Time∧Enc.gd x.Echo,fun x=>Enc.wt x.Inputs+Enc.wt x.Acks⟩
theorem TPacket.same {x y:TPacket} (h0:x.From=y.From) (h1:x.Tick=y.Tick) (h2:x.First=y.First) (h3:x.Inputs=y.Inputs) (h4:x.Acks=y.Acks) (h5:x.SumTick=y.SumTick) (h6:x.Sum=y.Sum) (h7:x.Time=y.Time) (h8:x.Echo=y.Echo):x=y:=by cases x; cases y; simp_all
structure TPeer where
 Me:Int
 Delay:Int
 Ahead:Int
 Seed:Int
 Tracks:(List TTrack)
 Base:TWorld
 Now:TWorld
 Used:(List (List Int))
 Saves:(List TSave)
 Sums:(List Int)
 Fault:TFault
 Rolls:Int
 Again:Int
 deriving DecidableEq
instance:Enc TPeer:=⟨23,by omega,fun x => [.v (.int .i64 x.Me),.v (.int .i64 x.Delay),.v (.int .i64 x.Ahead),.v (.int .i64 x.Seed),sl x.Tracks,sl x.Base.Level.Rows,.v (.int .i64 x.Base.Tick),.v (.int .i64 x.Base.Seed),sl x.Base.Scores,sl x.Base.Bodies,sl x.Now.Level.Rows,.v (.int .i64 x.Now.Tick),.v (.int .i64 x.Now.Seed),sl x.Now.Scores,sl x.Now.Bodies,sl x.Used,sl x.Saves,sl x.Sums,.v (.int .i64 x.Fault.Tick),.v (.int .i64 x.Fault.Player),.v (.int .i64 x.Fault.Add),.v (.int .i64 x.Rolls),.v (.int .i64 x.Again)],fun _=>rfl,fun x=>Enc.gd x.Me∧Enc.gd x.Delay∧Enc.gd x.Ahead∧Enc.gd x.Seed∧Enc.gd x.Tracks∧Enc.gd x.Base∧Enc.gd x.Now∧Enc.gd x.Used∧Enc.gd x.Saves∧Enc.gd x.Sums∧Enc.gd x.Fault∧Enc.gd x.Rolls∧Enc.gd x.Again,fun x=>Enc.wt x.Tracks+Enc.wt x.Base+Enc.wt x.Now+Enc.wt x.Used+Enc.wt x.Saves+Enc.wt x.Sums+Enc.wt x.Fault⟩
theorem TPeer.same {x y:TPeer} (h0:x.Me=y.Me) (h1:x.Delay=y.Delay) (h2:x.Ahead=y.Ahead) (h3:x.Seed=y.Seed) (h4:x.Tracks=y.Tracks) (h5:x.Base=y.Base) (h6:x.Now=y.Now) (h7:x.Used=y.Used) (h8:x.Saves=y.Saves) (h9:x.Sums=y.Sums) (h10:x.Fault=y.Fault) (h11:x.Rolls=y.Rolls) (h12:x.Again=y.Again):x=y:=by cases x; cases y; simp_all

theorem sz_Track (x:TTrack) (left:Int) (hg:Enc.gd x) (h0:0≤left) (h1:left≤1048576):Con Tryz.prog 178 [] [ag x,ai left] [] (I (szr (Enc.wt x) left)):=by
 have g_Inputs:Enc.gd x.Inputs:=hg
 have hw:Enc.wt x=Enc.wt x.Inputs:=rfl
 have hm1:decide ((-1:Int)<0)=true:=rfl
 have hc_Inputs:=sz_IntS x.Inputs (left) g_Inputs (by omega) (by omega)
 by_cases n_Inputs:left<Enc.wt x.Inputs
 ·rw[Kl n_Inputs] at hc_Inputs
  refine Con.of Tryz.func178 J Tryz.ntmps178 J (fun E => ?_)
  refine Wz [36,62] ?_;refine zx (Qj J J (hc_Inputs) J) J ?_;refine Wz [113,39] ?_
  exact Uq J (Ur [] J J (Xs (by rw[Us])))
 rw[Ut] at hc_Inputs
 have hb_Inputs:decide (left-Enc.wt x.Inputs<0)=false:=Gqa (by omega)
 refine Con.of Tryz.func178 J Tryz.ntmps178 J (fun E => ?_)
 refine Wz [36,62] ?_;refine zx (Qj J J (hc_Inputs) J) J ?_;refine Wz [118,160] ?_
 exact Uq J (Ur [] J J (Xs (by rw[Ut]; omega)))
theorem to_Track (x:TTrack) (hg:Enc.wt x≤1048576):Con Tryz.prog 189 [] [ag x] (ownO (Enc.e x)) (.o (.ag (ownV 0 (Enc.e x)))):=by
 have hw:Enc.wt x=Enc.wt x.Inputs:=rfl
 refine Con.of Tryz.func189 J Tryz.ntmps189 J (fun E => ?_)
 refine Wz [98,60,5,60,29] ?_;refine M1 (Zl J J (to_IntS x.Inputs (by omega)) J J J) J J ?_;refine Wz [48,30,20,94] ?_
 exact Xm J J J J (Ur [3] J J J)
theorem eq_Track (x y:TTrack) (hg:Enc.gd x):Con Tryz.prog 202 [] [ag x,ag y] [] (B (decide (x=y))):=by
 have g_Inputs:Enc.gd x.Inputs:=hg
 by_cases e_Inputs:¬x.Inputs=y.Inputs
 ·have hc:=eq_IntS x.Inputs y.Inputs g_Inputs
  rw[Gqa e_Inputs] at hc
  refine Con.of Tryz.func202 J Tryz.ntmps202 J (fun E => ?_)
  refine Wz [45] ?_;refine zx (Qj J J (hc) J) J ?_;refine Wz [2,39] ?_
  exact Uq J (Ur [] J J (Xk (Gqa fun e=>e_Inputs (by rw[e])).symm))
 have e_Inputs:=Classical.not_not.1 e_Inputs
 have hc_Inputs:=eq_IntS x.Inputs y.Inputs g_Inputs
 rw[Gqb e_Inputs] at hc_Inputs
 refine Con.of Tryz.func202 J Tryz.ntmps202 J (fun E => ?_)
 refine Wz [45] ?_;refine zx (Qj J J (hc_Inputs) J) J ?_;refine Wz [2,9,72] ?_
 exact Uq J (Ur [] J J (Xk (Gqb (TTrack.same e_Inputs)).symm))
theorem sz_Save (x:TSave) (left:Int) (hg:Enc.gd x) (h0:0≤left) (h1:left≤1048576):Con Tryz.prog 180 [] [ag x,ai left] [] (I (szr (Enc.wt x) left)):=by
 obtain⟨g_Tick,g_Delta⟩:=hg
 have hw:Enc.wt x=Enc.wt x.Delta:=rfl
 have hm1:decide ((-1:Int)<0)=true:=rfl
 have hgd_Delta:x.Delta.size≤9223372036854775807:=g_Delta
 have hs_Delta:Enc.wt x.Delta=x.Delta.size:=rfl
 by_cases n_Delta:left-(x.Delta.size:Int)<0
 ·have hb:decide (left-(x.Delta.size:Int)<0)=true:=Gqb n_Delta
  refine Con.of Tryz.func180 J Tryz.ntmps180 J (fun E => ?_)
  refine Wz [36,18,21,137,51,113,39] ?_
  exact Uq J (Ur [] J J (Xs (by rw[Us])))
 have hb_Delta:decide (left-(x.Delta.size:Int)<0)=false:=Gqa n_Delta
 refine Con.of Tryz.func180 J Tryz.ntmps180 J (fun E => ?_)
 refine Wz [36,18,21,137,51,118,160] ?_
 exact Uq J (Ur [] J J (Xs (by rw[Ut]; omega)))
theorem to_Save (x:TSave) (hg:Enc.wt x≤1048576):Con Tryz.prog 191 [] [ag x] (ownO (Enc.e x)) (.o (.ag (ownV 0 (Enc.e x)))):=by
 have hw:Enc.wt x=Enc.wt x.Delta:=rfl
 refine Con.of Tryz.func191 J Tryz.ntmps191 J (fun E => ?_)
 refine Wz [98,60,5,60,29,65,48,30,20,94] ?_
 exact Xm J J J J (Ur [] J J J)
theorem eq_Save (x y:TSave) (hg:Enc.gd x):Con Tryz.prog 203 [] [ag x,ag y] [] (B (decide (x=y))):=by
 obtain⟨g_Tick,g_Delta⟩:=hg
 by_cases e_Tick:¬x.Tick=y.Tick
 ·have hk:decide (x.Tick≠y.Tick)=true:=by simp[e_Tick]
  refine Con.of Tryz.func203 J Tryz.ntmps203 J (fun E => ?_)
  refine Wz [45,44] ?_
  exact Uq J (Ur [] J J (Xk (Gqa fun e=>e_Tick (by rw[e])).symm))
 have e_Tick:=Classical.not_not.1 e_Tick
 have k_Tick:decide (x.Tick≠y.Tick)=false:=by simp[e_Tick]
 by_cases e_Delta:¬x.Delta=y.Delta
 ·have hk:decide (x.Delta≠y.Delta)=true:=by simp[e_Delta]
  refine Con.of Tryz.func203 J Tryz.ntmps203 J (fun E => ?_)
  refine Wz [45,111,267,39] ?_
  exact Uq J (Ur [] J J (Xk (Gqa fun e=>e_Delta (by rw[e])).symm))
 have e_Delta:=Classical.not_not.1 e_Delta
 have k_Delta:decide (x.Delta≠y.Delta)=false:=by simp[e_Delta]
 refine Con.of Tryz.func203 J Tryz.ntmps203 J (fun E => ?_)
 refine Wz [45,111,267,9,72] ?_
 exact Uq J (Ur [] J J (Xk (Gqb (TSave.same e_Tick e_Delta)).symm))
theorem to_Fault (x:TFault) (hg:Enc.wt x≤1048576):Con Tryz.prog 46 [] [ag x] (ownO (Enc.e x)) (.o (.ag (ownV 0 (Enc.e x)))):=by
 refine Con.of Tryz.func46 J Tryz.ntmps46 J (fun E => ?_)
 refine Wz [98,60,5,60,29,65,65,48,30,20,94] ?_
 exact Xm J J J J (Ur [] J J J)
theorem eq_Fault (x y:TFault) (hg:Enc.gd x):Con Tryz.prog 77 [] [ag x,ag y] [] (B (decide (x=y))):=by
 obtain⟨g_Tick,g_Player,g_Add⟩:=hg
 by_cases e_Tick:¬x.Tick=y.Tick
 ·have hk:decide (x.Tick≠y.Tick)=true:=by simp[e_Tick]
  refine Con.of Tryz.func77 J Tryz.ntmps77 J (fun E => ?_)
  refine Wz [45,44] ?_
  exact Uq J (Ur [] J J (Xk (Gqa fun e=>e_Tick (by rw[e])).symm))
 have e_Tick:=Classical.not_not.1 e_Tick
 have k_Tick:decide (x.Tick≠y.Tick)=false:=by simp[e_Tick]
 by_cases e_Player:¬x.Player=y.Player
 ·have hk:decide (x.Player≠y.Player)=true:=by simp[e_Player]
  refine Con.of Tryz.func77 J Tryz.ntmps77 J (fun E => ?_)
  refine Wz [45,111,44] ?_
  exact Uq J (Ur [] J J (Xk (Gqa fun e=>e_Player (by rw[e])).symm))
 have e_Player:=Classical.not_not.1 e_Player
 have k_Player:decide (x.Player≠y.Player)=false:=by simp[e_Player]
 by_cases e_Add:¬x.Add=y.Add
 ·have hk:decide (x.Add≠y.Add)=true:=by simp[e_Add]
  refine Con.of Tryz.func77 J Tryz.ntmps77 J (fun E => ?_)
  refine Wz [45,114,44] ?_
  exact Uq J (Ur [] J J (Xk (Gqa fun e=>e_Add (by rw[e])).symm))
 have e_Add:=Classical.not_not.1 e_Add
 have k_Add:decide (x.Add≠y.Add)=false:=by simp[e_Add]
 refine Con.of Tryz.func77 J Tryz.ntmps77 J (fun E => ?_)
 refine Wz [45,114,49,9,72] ?_
 exact Uq J (Ur [] J J (Xk (Gqb (TFault.same e_Tick e_Player e_Add)).symm))
theorem sz_TrackS (xs:List TTrack) (left:Int) (hg:Enc.gd xs) (h0:0≤left) (h1:left≤1048576):Con Tryz.prog 96 [] [al xs,ai left] [] (I (szr (Enc.wt xs) left)):=by
 have hlen:=Yc xs
 have hx:=hg.1
 have hw:Enc.wt xs=xs.length+wts xs:=rfl
 refine Con.of Tryz.func96 J Tryz.ntmps96 J (fun E => ?_)
 refine Wz [22,17,10,51,66,63] ?_
 refine Xb J (fun h => ?_) (fun h => ?_)
 ·refine Wz [52] ?_
  have h2:=Gqc h
  exact Uq J (Ur [] J J (Xs (by rw[Us])))
 have h2:¬(left-((els xs).length:Int)<0):=Gqd h
 refine Wz [25,26] ?_
 refine Xj (fun m st=>∃ k:Nat,k+m=xs.length∧(((xs.length:Int)+wts (xs.take k)≤left))∧st=(⟨_,[(0,L xs),(1,I (left-(xs.length+wts (xs.take k)))),(5,I k)],[]⟩:St)) (xs.length) ⟨(fun k:Nat=>(⟨_,[(0,L xs),(1,I (left-(xs.length+wts (xs.take k)))),(5,I k)],[]⟩:St)) 0,⟨0,by omega,by simp[wts]; omega,J⟩,Up [] J (by kernel_rfl) (.c J (.cons (Xs (by simp[els,wts])) (.c J (.nil))))⟩ ?_
 rintro m_A _ ⟨k,hk_A,hp_A,rfl⟩
 refine Wz [71] ?_
 refine Xb J (fun h => ?_) (fun h => ?_)
 ·have h3:k<xs.length:=by have:=Gqc h; omega
  have hat:=Yb h3
  have hstep:=Kt xs k h3
  have hle:=Ku xs (k+1)
  have hc:=sz_Track xs[k] (left-((xs.length:Int)+wts (xs.take k))) (hg.2 _ (Gqg h3)) (by omega) (by omega)
  by_cases h4:left-((xs.length:Int)+wts (xs.take k))<Enc.wt xs[k]
  ·rw[Kl h4] at hc
   have hb:decide ((-1:Int)<0)=true:=rfl
   refine Wz [8,17,69,0] ?_;refine zx (Qj J J (hc) J) J ?_;refine Wz [83,59,67] ?_
   exact Uq J (Ur [] J J (Xs (by rw[Us])))
  ·rw[Ut] at hc
   have hb:decide (left-((xs.length:Int)+wts (xs.take k))-Enc.wt xs[k]<0)=false:=Gqa (by omega)
   refine Wz [8,17,69,0] ?_;refine zx (Qj J J (hc) J) J ?_;refine Wz [83,15,53] ?_
   exact⟨xs.length-(k+1),by omega,(fun k:Nat=>(⟨_,[(0,L xs),(1,I (left-(xs.length+wts (xs.take k)))),(5,I k)],[]⟩:St)) (k+1),⟨k+1,by omega,by omega,J⟩,Up [] J (by kernel_rfl) (.c J (.cons (Xs (by rw[hstep]; omega)) (.c J (.nil))))⟩
 ·have h3:¬((k:Int)<(els xs).length):=Gqd h
  have hk:wts (xs.take k)=wts xs:=by rw[Gqk (by omega)]
  refine Wz [54] ?_
  exact Uq J (Ur [] J J (Xs (by rw[Ut]; omega)))
theorem sz_SaveS (xs:List TSave) (left:Int) (hg:Enc.gd xs) (h0:0≤left) (h1:left≤1048576):Con Tryz.prog 98 [] [al xs,ai left] [] (I (szr (Enc.wt xs) left)):=by
 have hlen:=Yc xs
 have hx:=hg.1
 have hw:Enc.wt xs=xs.length+wts xs:=rfl
 refine Con.of Tryz.func98 J Tryz.ntmps98 J (fun E => ?_)
 refine Wz [22,17,10,51,66,63] ?_
 refine Xb J (fun h => ?_) (fun h => ?_)
 ·refine Wz [52] ?_
  have h2:=Gqc h
  exact Uq J (Ur [] J J (Xs (by rw[Us])))
 have h2:¬(left-((els xs).length:Int)<0):=Gqd h
 refine Wz [25,26] ?_
 refine Xj (fun m st=>∃ k:Nat,k+m=xs.length∧(((xs.length:Int)+wts (xs.take k)≤left))∧st=(⟨_,[(0,L xs),(1,I (left-(xs.length+wts (xs.take k)))),(5,I k)],[]⟩:St)) (xs.length) ⟨(fun k:Nat=>(⟨_,[(0,L xs),(1,I (left-(xs.length+wts (xs.take k)))),(5,I k)],[]⟩:St)) 0,⟨0,by omega,by simp[wts]; omega,J⟩,Up [] J (by kernel_rfl) (.c J (.cons (Xs (by simp[els,wts])) (.c J (.nil))))⟩ ?_
 rintro m_A _ ⟨k,hk_A,hp_A,rfl⟩
 refine Wz [71] ?_
 refine Xb J (fun h => ?_) (fun h => ?_)
 ·have h3:k<xs.length:=by have:=Gqc h; omega
  have hat:=Yb h3
  have hstep:=Kt xs k h3
  have hle:=Ku xs (k+1)
  have hc:=sz_Save xs[k] (left-((xs.length:Int)+wts (xs.take k))) (hg.2 _ (Gqg h3)) (by omega) (by omega)
  by_cases h4:left-((xs.length:Int)+wts (xs.take k))<Enc.wt xs[k]
  ·rw[Kl h4] at hc
   have hb:decide ((-1:Int)<0)=true:=rfl
   refine Wz [8,17,69,0] ?_;refine zx (Qj J J (hc) J) J ?_;refine Wz [83,59,67] ?_
   exact Uq J (Ur [] J J (Xs (by rw[Us])))
  ·rw[Ut] at hc
   have hb:decide (left-((xs.length:Int)+wts (xs.take k))-Enc.wt xs[k]<0)=false:=Gqa (by omega)
   refine Wz [8,17,69,0] ?_;refine zx (Qj J J (hc) J) J ?_;refine Wz [83,15,53] ?_
   exact⟨xs.length-(k+1),by omega,(fun k:Nat=>(⟨_,[(0,L xs),(1,I (left-(xs.length+wts (xs.take k)))),(5,I k)],[]⟩:St)) (k+1),⟨k+1,by omega,by omega,J⟩,Up [] J (by kernel_rfl) (.c J (.cons (Xs (by rw[hstep]; omega)) (.c J (.nil))))⟩
 ·have h3:¬((k:Int)<(els xs).length):=Gqd h
  have hk:wts (xs.take k)=wts xs:=by rw[Gqk (by omega)]
  refine Wz [54] ?_
  exact Uq J (Ur [] J J (Xs (by rw[Ut]; omega)))
def zSave:List T := [.v (.int .i64 0),.v (.string ⟨#[]⟩)]
def zTrack:List T := [.sl 1 []]
theorem to_TrackS (xs:List TTrack) (hg:Enc.wt xs≤1048576):Con Tryz.prog 103 [] [al xs] [.row 1 (els xs)] (.o (.c (.ref 0))):=by
 have hlen:=Yc xs
 have hw:Enc.wt xs=xs.length+wts xs:=rfl
 refine Con.of Tryz.func103 J Tryz.ntmps103 J (fun E => ?_)
 refine Wz [22,18,10,233,4,26] ?_;refine Xj (fun m st=>∃ k:Nat,k+m=xs.length∧(True)∧st=(⟨_,[(0,L xs),(3,.o (.c (.ref 0))),(4,I k)],[.row 1 (part xs zTrack k)]⟩:St)) (xs.length) ⟨(fun k:Nat=>(⟨_,[(0,L xs),(3,.o (.c (.ref 0))),(4,I k)],[.row 1 (part xs zTrack k)]⟩:St)) 0,⟨0,by omega,trivial,J⟩,Up [0] J (Kb (Zc xs _)) (.c J (.c J (.c J (.nil))))⟩ ?_
 rintro m_A _ ⟨k,hk_A,hp_A,rfl⟩
 refine Wz [71] ?_
 refine Xb J (fun h => ?_) (fun h => ?_)
 ·have h3:k<xs.length:=by have:=Gqc h; omega
  have hat:=Yb h3
  have hz:=Y9 xs zTrack h3
  have hpl:(k:Int)<(part xs zTrack k).length:=by rw[Uu xs _]; omega
  have hwt:Enc.wt xs[k]≤wts xs:=Ks xs _ (Gqg h3)
  have hc:=to_Track xs[k] (by omega)
  refine Wz [8,23,43,43,69] ?_;refine M1 (Zl J J (hc) J J J) J J ?_;refine Wz [172,173,121] ?_
  exact⟨xs.length-(k+1),by omega,(fun k:Nat=>(⟨_,[(0,L xs),(3,.o (.c (.ref 0))),(4,I k)],[.row 1 (part xs zTrack k)]⟩:St)) (k+1),⟨k+1,by omega,trivial,J⟩,Up [0] J (Kb (Zb xs zTrack h3 _ (by rfl) (by rfl)).symm) (.c J (.c J (.c J (.nil))))⟩
 ·have h3:¬((k:Int)<(els xs).length):=Gqd h
  refine Wz [54] ?_
  exact Uq J (Ur [0] J (Kb (Uv xs _).symm) J)
theorem to_SaveS (xs:List TSave) (hg:Enc.wt xs≤1048576):Con Tryz.prog 105 [] [al xs] [.row 2 (els xs)] (.o (.c (.ref 0))):=by
 have hlen:=Yc xs
 have hw:Enc.wt xs=xs.length+wts xs:=rfl
 refine Con.of Tryz.func105 J Tryz.ntmps105 J (fun E => ?_)
 refine Wz [22,18,10,232,4,26] ?_;refine Xj (fun m st=>∃ k:Nat,k+m=xs.length∧(True)∧st=(⟨_,[(0,L xs),(3,.o (.c (.ref 0))),(4,I k)],[.row 2 (part xs zSave k)]⟩:St)) (xs.length) ⟨(fun k:Nat=>(⟨_,[(0,L xs),(3,.o (.c (.ref 0))),(4,I k)],[.row 2 (part xs zSave k)]⟩:St)) 0,⟨0,by omega,trivial,J⟩,Up [0] J (Kb (Zc xs _)) (.c J (.c J (.c J (.nil))))⟩ ?_
 rintro m_A _ ⟨k,hk_A,hp_A,rfl⟩
 refine Wz [71] ?_
 refine Xb J (fun h => ?_) (fun h => ?_)
 ·have h3:k<xs.length:=by have:=Gqc h; omega
  have hat:=Yb h3
  have hz:=Y9 xs zSave h3
  have hpl:(k:Int)<(part xs zSave k).length:=by rw[Uu xs _]; omega
  have hwt:Enc.wt xs[k]≤wts xs:=Ks xs _ (Gqg h3)
  have hc:=to_Save xs[k] (by omega)
  refine Wz [8,23,43,43,69] ?_;refine M1 (Zl J J (hc) J J J) J J ?_;refine Wz [172,173,121] ?_
  exact⟨xs.length-(k+1),by omega,(fun k:Nat=>(⟨_,[(0,L xs),(3,.o (.c (.ref 0))),(4,I k)],[.row 2 (part xs zSave k)]⟩:St)) (k+1),⟨k+1,by omega,trivial,J⟩,Up [0] J (Kb (Zb xs zSave h3 _ (by rfl) (by rfl)).symm) (.c J (.c J (.c J (.nil))))⟩
 ·have h3:¬((k:Int)<(els xs).length):=Gqd h
  refine Wz [54] ?_
  exact Uq J (Ur [0] J (Kb (Uv xs _).symm) J)
theorem eq_TrackS (xs ys:List TTrack) (hn:Enc.gd xs):Con Tryz.prog 110 [] [al xs,al ys] [] (B (decide (xs=ys))):=by
 have hn1:=hn.1
 have hlx:=Yc xs
 have hly:=Yc ys
 by_cases hl:xs.length=ys.length
 ·have hb:decide (((els xs).length:Int)≠((els ys).length:Int))=false:=by rw[hlx,hly,hl]; simp
  refine Con.of Tryz.func110 J Tryz.ntmps110 J (fun E => ?_)
  refine Wz [57,97,10,49,9,26] ?_;refine Xj (fun m st=>∃ k:Nat,k+m=xs.length∧(xs.take k=ys.take k)∧st=(⟨_,[(0,L xs),(1,L ys),(5,I k)],[]⟩:St)) (xs.length) ⟨_,⟨0,by omega,by simp,J⟩,Ux []⟩ ?_
  rintro m_A _ ⟨k,hk_A,hp_A,rfl⟩
  refine Wz [71] ?_
  refine Xb J (fun h => ?_) (fun h => ?_)
  ·have h3:k<xs.length:=by have:=Gqc h; omega
   have h4:k<ys.length:=by omega
   have hat:=Yb h3
   have hat2:=Yb h4
   have hc:=eq_Track xs[k] ys[k] (hn.2 _ (Gqg h3))
   by_cases he:xs[k]=ys[k]
   ·rw[Gqb he] at hc
    refine Wz [81,129,103,103] ?_;refine Kw (Qj J J (hc) J) J ?_;refine Wz [84,16,53] ?_
    exact⟨xs.length-(k+1),by omega,_,⟨k+1,by omega,Yj h3 h4 hp_A he,J⟩,Ux []⟩
   ·rw[Gqa he] at hc
    refine Wz [81,129,103,103] ?_;refine Kw (Qj J J (hc) J) J ?_;refine Wz [84,16,11,67] ?_
    exact Uq J (Ur [] J J (Xk (eq_ne h3 h4 he).symm))
  ·have h3:¬((k:Int)<(els xs).length):=Gqd h
   refine Wz [38,72] ?_
   exact Uq J (Ur [] J J (Xk (Yh (by omega) hl hp_A).symm))
 ·have hb:decide (((els xs).length:Int)≠((els ys).length:Int))=true:=by rw[hlx,hly]; simp; omega
  refine Con.of Tryz.func110 J Tryz.ntmps110 J (fun E => ?_)
  refine Wz [57,97,10,44] ?_
  exact Uq J (Ur [] J J (Xk (Yi hl).symm))
theorem eq_SaveS (xs ys:List TSave) (hn:Enc.gd xs):Con Tryz.prog 111 [] [al xs,al ys] [] (B (decide (xs=ys))):=by
 have hn1:=hn.1
 have hlx:=Yc xs
 have hly:=Yc ys
 by_cases hl:xs.length=ys.length
 ·have hb:decide (((els xs).length:Int)≠((els ys).length:Int))=false:=by rw[hlx,hly,hl]; simp
  refine Con.of Tryz.func111 J Tryz.ntmps111 J (fun E => ?_)
  refine Wz [57,97,10,49,9,26] ?_;refine Xj (fun m st=>∃ k:Nat,k+m=xs.length∧(xs.take k=ys.take k)∧st=(⟨_,[(0,L xs),(1,L ys),(5,I k)],[]⟩:St)) (xs.length) ⟨_,⟨0,by omega,by simp,J⟩,Ux []⟩ ?_
  rintro m_A _ ⟨k,hk_A,hp_A,rfl⟩
  refine Wz [71] ?_
  refine Xb J (fun h => ?_) (fun h => ?_)
  ·have h3:k<xs.length:=by have:=Gqc h; omega
   have h4:k<ys.length:=by omega
   have hat:=Yb h3
   have hat2:=Yb h4
   have hc:=eq_Save xs[k] ys[k] (hn.2 _ (Gqg h3))
   by_cases he:xs[k]=ys[k]
   ·rw[Gqb he] at hc
    refine Wz [81,129,103,103] ?_;refine Kw (Qj J J (hc) J) J ?_;refine Wz [84,16,53] ?_
    exact⟨xs.length-(k+1),by omega,_,⟨k+1,by omega,Yj h3 h4 hp_A he,J⟩,Ux []⟩
   ·rw[Gqa he] at hc
    refine Wz [81,129,103,103] ?_;refine Kw (Qj J J (hc) J) J ?_;refine Wz [84,16,11,67] ?_
    exact Uq J (Ur [] J J (Xk (eq_ne h3 h4 he).symm))
  ·have h3:¬((k:Int)<(els xs).length):=Gqd h
   refine Wz [38,72] ?_
   exact Uq J (Ur [] J J (Xk (Yh (by omega) hl hp_A).symm))
 ·have hb:decide (((els xs).length:Int)≠((els ys).length:Int))=true:=by rw[hlx,hly]; simp; omega
  refine Con.of Tryz.func111 J Tryz.ntmps111 J (fun E => ?_)
  refine Wz [57,97,10,44] ?_
  exact Uq J (Ur [] J J (Xk (Yi hl).symm))
end
end Go.Proofs.YtoecjaohdnoenaaGreat
