/-
  Rules, data and contracts of functions: part 16 of the proof.
  Conditions: those that each theorem names.
-/
import Derived.Test.YtfklmiijhcajdaaGreatDDTellRowk14
set_option linter.unusedVariables false
set_option linter.unusedSimpArgs false
set_option maxRecDepth 8000
set_option maxHeartbeats 8000000
namespace Go.Proofs.YtfklmiijhcajdaaGreat
section
open Go.RowKit

structure TBody where
 Kind:Int
 Owner:Int
 X:Int
 Y:Int
 VX:Int
 VY:Int
 Aim:Int
 Life:Int
 Timer:Int
 deriving DecidableEq
instance:Enc TBody:=⟨9,Aqa,fun x => [.v (.int .i64 x.Kind),.v (.int .i64 x.Owner),.v (.int .i64 x.X),.v (.int .i64 x.Y),.v (.int .i64 x.VX),.v (.int .i64 x.VY),.v (.int .i64 x.Aim),.v (.int .i64 x.Life),.v (.int .i64 x.Timer)],fun _=>rfl,fun x=>Enc.gd x.Kind∧Enc.gd x.Owner∧Enc.gd x.X∧Enc.gd x.Y∧Enc.gd x.VX∧Enc.gd x.VY∧Enc.gd x.Aim∧Enc.gd x.Life∧Enc.gd x.Timer,fun x=>0⟩
theorem TBody.same {x y:TBody} (h0:x.Kind=y.Kind) (h1:x.Owner=y.Owner) (h2:x.X=y.X) (h3:x.Y=y.Y) (h4:x.VX=y.VX) (h5:x.VY=y.VY) (h6:x.Aim=y.Aim) (h7:x.Life=y.Life) (h8:x.Timer=y.Timer):x=y:=by cases x; cases y; simp_all
structure TWorld where
 Level:TLevel
 Tick:Int
 Seed:Int
 Scores:(List Int)
 Bodies:(List TBody)
 deriving DecidableEq
instance:Enc TWorld:=⟨5,Aqa,fun x => [sl x.Level.Rows,.v (.int .i64 x.Tick),.v (.int .i64 x.Seed),sl x.Scores,sl x.Bodies],fun _=>rfl,fun x=>Enc.gd x.Level∧Enc.gd x.Tick∧Enc.gd x.Seed∧Enc.gd x.Scores∧Enc.gd x.Bodies,fun x=>Enc.wt x.Level+Enc.wt x.Scores+Enc.wt x.Bodies⟩
theorem TWorld.same {x y:TWorld} (h0:x.Level=y.Level) (h1:x.Tick=y.Tick) (h2:x.Seed=y.Seed) (h3:x.Scores=y.Scores) (h4:x.Bodies=y.Bodies):x=y:=by cases x; cases y; simp_all
structure TSpectator where
 World:TWorld
 Gaps:Int
 deriving DecidableEq
instance:Enc TSpectator:=⟨6,Aqa,fun x => [sl x.World.Level.Rows,.v (.int .i64 x.World.Tick),.v (.int .i64 x.World.Seed),sl x.World.Scores,sl x.World.Bodies,.v (.int .i64 x.Gaps)],fun _=>rfl,fun x=>Enc.gd x.World∧Enc.gd x.Gaps,fun x=>Enc.wt x.World⟩
theorem TSpectator.same {x y:TSpectator} (h0:x.World=y.World) (h1:x.Gaps=y.Gaps):x=y:=by cases x; cases y; simp_all

theorem to_Body (x:TBody) (hg:Enc.wt x≤1048576):Con Tryz.prog 324 [] [ag x] (ownO (Enc.e x)) (.o (.ag (ownV 0 (Enc.e x)))):=by
 refine Con.of Tryz.func324 J Tryz.ntmps324 J (fun E => ?_)
 refine Wz [76,52,3,52,23,45,45,45,45,45,45,45,45,30,100,49] ?_
 exact Xk J J J J (X1 [] Aqc J J J)
theorem eq_Body (x y:TBody) (hg:Enc.gd x):Con Tryz.prog 325 [] [ag x,ag y] [] (B (decide (x=y))):=by
 obtain⟨g_Kind,g_Owner,g_X,g_Y,g_VX,g_VY,g_Aim,g_Life,g_Timer⟩:=hg
 by_cases e_Kind:¬x.Kind=y.Kind
 ·have hk:decide (x.Kind≠y.Kind)=true:=by simp[e_Kind]
  refine Con.of Tryz.func325 J Tryz.ntmps325 J (fun E => ?_)
  refine Wz [42,41] ?_
  exact Xl J J (X1 [] Aqc J J (Xi (Gqa fun e=>e_Kind (by rw[e])).symm))
 have e_Kind:=Classical.not_not.1 e_Kind
 have k_Kind:decide (x.Kind≠y.Kind)=false:=by simp[e_Kind]
 by_cases e_Owner:¬x.Owner=y.Owner
 ·have hk:decide (x.Owner≠y.Owner)=true:=by simp[e_Owner]
  refine Con.of Tryz.func325 J Tryz.ntmps325 J (fun E => ?_)
  refine Wz [42,108,41] ?_
  exact Xl J J (X1 [] Aqc J J (Xi (Gqa fun e=>e_Owner (by rw[e])).symm))
 have e_Owner:=Classical.not_not.1 e_Owner
 have k_Owner:decide (x.Owner≠y.Owner)=false:=by simp[e_Owner]
 by_cases e_X:¬x.X=y.X
 ·have hk:decide (x.X≠y.X)=true:=by simp[e_X]
  refine Con.of Tryz.func325 J Tryz.ntmps325 J (fun E => ?_)
  refine Wz [42,115,41] ?_
  exact Xl J J (X1 [] Aqc J J (Xi (Gqa fun e=>e_X (by rw[e])).symm))
 have e_X:=Classical.not_not.1 e_X
 have k_X:decide (x.X≠y.X)=false:=by simp[e_X]
 by_cases e_Y:¬x.Y=y.Y
 ·have hk:decide (x.Y≠y.Y)=true:=by simp[e_Y]
  refine Con.of Tryz.func325 J Tryz.ntmps325 J (fun E => ?_)
  refine Wz [42,115,108,41] ?_
  exact Xl J J (X1 [] Aqc J J (Xi (Gqa fun e=>e_Y (by rw[e])).symm))
 have e_Y:=Classical.not_not.1 e_Y
 have k_Y:decide (x.Y≠y.Y)=false:=by simp[e_Y]
 by_cases e_VX:¬x.VX=y.VX
 ·have hk:decide (x.VX≠y.VX)=true:=by simp[e_VX]
  refine Con.of Tryz.func325 J Tryz.ntmps325 J (fun E => ?_)
  refine Wz [42,122,41] ?_
  exact Xl J J (X1 [] Aqc J J (Xi (Gqa fun e=>e_VX (by rw[e])).symm))
 have e_VX:=Classical.not_not.1 e_VX
 have k_VX:decide (x.VX≠y.VX)=false:=by simp[e_VX]
 by_cases e_VY:¬x.VY=y.VY
 ·have hk:decide (x.VY≠y.VY)=true:=by simp[e_VY]
  refine Con.of Tryz.func325 J Tryz.ntmps325 J (fun E => ?_)
  refine Wz [42,122,108,41] ?_
  exact Xl J J (X1 [] Aqc J J (Xi (Gqa fun e=>e_VY (by rw[e])).symm))
 have e_VY:=Classical.not_not.1 e_VY
 have k_VY:decide (x.VY≠y.VY)=false:=by simp[e_VY]
 by_cases e_Aim:¬x.Aim=y.Aim
 ·have hk:decide (x.Aim≠y.Aim)=true:=by simp[e_Aim]
  refine Con.of Tryz.func325 J Tryz.ntmps325 J (fun E => ?_)
  refine Wz [42,122,115,41] ?_
  exact Xl J J (X1 [] Aqc J J (Xi (Gqa fun e=>e_Aim (by rw[e])).symm))
 have e_Aim:=Classical.not_not.1 e_Aim
 have k_Aim:decide (x.Aim≠y.Aim)=false:=by simp[e_Aim]
 by_cases e_Life:¬x.Life=y.Life
 ·have hk:decide (x.Life≠y.Life)=true:=by simp[e_Life]
  refine Con.of Tryz.func325 J Tryz.ntmps325 J (fun E => ?_)
  refine Wz [42,122,115,108,41] ?_
  exact Xl J J (X1 [] Aqc J J (Xi (Gqa fun e=>e_Life (by rw[e])).symm))
 have e_Life:=Classical.not_not.1 e_Life
 have k_Life:decide (x.Life≠y.Life)=false:=by simp[e_Life]
 by_cases e_Timer:¬x.Timer=y.Timer
 ·have hk:decide (x.Timer≠y.Timer)=true:=by simp[e_Timer]
  refine Con.of Tryz.func325 J Tryz.ntmps325 J (fun E => ?_)
  refine Wz [42,122,122,41] ?_
  exact Xl J J (X1 [] Aqc J J (Xi (Gqa fun e=>e_Timer (by rw[e])).symm))
 have e_Timer:=Classical.not_not.1 e_Timer
 have k_Timer:decide (x.Timer≠y.Timer)=false:=by simp[e_Timer]
 refine Con.of Tryz.func325 J Tryz.ntmps325 J (fun E => ?_)
 refine Wz [42,122,122,118,33,67] ?_
 exact Xl J J (X1 [] Aqc J J (Xi (Gqb (TBody.same e_Kind e_Owner e_X e_Y e_VX e_VY e_Aim e_Life e_Timer)).symm))
theorem eq_BodyS (xs ys:List TBody) (hn:Enc.gd xs):Con Tryz.prog 303 [] [al xs,al ys] [] (B (decide (xs=ys))):=by
 have hn1:=hn.1
 have hlx:=Yi xs
 have hly:=Yi ys
 by_cases hl:xs.length=ys.length
 ·have hb:decide (((els xs).length:Int)≠((els ys).length:Int))=false:=by rw[hlx,hly,hl]; simp
  refine Con.of Tryz.func303 J Tryz.ntmps303 J (fun E => ?_)
  refine Wz [105,14,118,33,11] ?_;refine Xh (fun m st=>∃ k:Nat,k+m=xs.length∧(xs.take k=ys.take k)∧st=(⟨_,[(0,L xs),(1,L ys),(5,I k)],[]⟩:St)) (xs.length) ⟨_,⟨0,Aqa,Aqd,J⟩,X3 [] Aqb⟩ ?_
  rintro m_A _ ⟨k,hk_A,hp_A,rfl⟩
  refine Wz [59] ?_
  refine Xb J (fun h => ?_) (fun h => ?_)
  ·have h3:k<xs.length:=by have:=Gqc h; omega
   have h4:k<ys.length:=Aqa
   have hat:=Yg h3
   have hat2:=Yg h4
   have hc:=eq_Body xs[k] ys[k] (hn.2 _ (Gqe h3))
   by_cases he:xs[k]=ys[k]
   ·rw[Gqb he] at hc
    refine Wz [88,128,95,95] ?_;refine DR.s (Qj J J (hc) J) J J ?_;refine Wz [74,13,81,62] ?_
    exact⟨xs.length-(k+1),Aqa,_,⟨k+1,Aqa,Yp h3 h4 hp_A he,J⟩,X3 [] Aqb⟩
   ·rw[Gqa he] at hc
    refine Wz [88,128,95,95] ?_;refine DR.s (Qj J J (hc) J) J J ?_;refine Wz [74,13,24,54] ?_
    exact Xl J J (X1 [] Aqc J J (Xi (eq_ne h3 h4 he).symm))
  ·have h3:¬((k:Int)<(els xs).length):=Gqd h
   refine Wz [20,67] ?_
   exact Xl J J (X1 [] Aqc J J (Xi (Yn Aqa hl hp_A).symm))
 ·have hb:decide (((els xs).length:Int)≠((els ys).length:Int))=true:=by rw[hlx,hly]; simp; omega
  refine Con.of Tryz.func303 J Tryz.ntmps303 J (fun E => ?_)
  refine Wz [105,14,41] ?_
  exact Xl J J (X1 [] Aqc J J (Xi (Yo hl).symm))
theorem wts_body:∀ xs:List TBody,wts xs=0
 | []=>rfl
 |x::xs=>by simp[wts,wts_body xs,Enc.wt]
theorem sz_BodyS (xs:List TBody) (left:Int) (hg:Enc.gd xs) (h0:0≤left) (h1:left≤1048576):Con Tryz.prog 288 [] [al xs,ai left] [] (I (szr (Enc.wt xs) left)):=by
 have hlen:=Yi xs
 have hx:=hg.1
 have hw:Enc.wt xs=xs.length:=by simp[Enc.wt,wts_body]
 refine Con.of Tryz.func288 J Tryz.ntmps288 J (fun E => ?_)
 refine Wz [12,9,14,84,73,38] ?_
 refine Xb J (fun h => ?_) (fun h => ?_)
 ·refine Wz [39] ?_
  have h2:=Gqc (p:=_) (by simpa using h)
  exact Xl J J (X1 [] Aqc J J (Xq (by rw[Kq Aqa])))
 ·refine Wz [15,10,2] ?_
  refine Wz [49] ?_
  have h2:=Gqd h
  exact Xl J J (X1 [] Aqc J J (Xq (by rw[Kr Aqa]; omega)))
def zBody:List T := [.v (.int .i64 0),.v (.int .i64 0),.v (.int .i64 0),.v (.int .i64 0),.v (.int .i64 0),.v (.int .i64 0),.v (.int .i64 0),.v (.int .i64 0),.v (.int .i64 0)]
theorem to_BodyS (xs:List TBody) (hg:Enc.wt xs≤1048576):Con Tryz.prog 297 [] [al xs] [.row 9 (els xs)] (Aqg 0):=by
 have hlen:=Yi xs
 have hw:Enc.wt xs=xs.length+wts xs:=rfl
 have hw2:=wts_body xs
 refine Con.of Tryz.func297 J Tryz.ntmps297 J (fun E => ?_)
 refine Wz [12,10,14,214,2,11] ?_;refine Xh (fun m st=>∃ k:Nat,k+m=xs.length∧(True)∧st=(⟨_,[(0,L xs),(3,Aqg 0),(4,I k)],[.row 9 (part xs zBody k)]⟩:St)) (xs.length) ⟨(fun k:Nat=>(⟨_,[(0,L xs),(3,Aqg 0),(4,I k)],[.row 9 (part xs zBody k)]⟩:St)) 0,⟨0,Aqa,trivial,J⟩,X4 [0] Aqc J (Kj (Zk xs _)) (.c J (.c J (.c J (.nil))))⟩ ?_
 rintro m_A _ ⟨k,hk_A,hp_A,rfl⟩
 refine Wz [59] ?_
 refine Xb J (fun h => ?_) (fun h => ?_)
 ·have h3:k<xs.length:=by have:=Gqc h; omega
  have hat:=Yg h3
  have hz:=Zh xs zBody h3
  have hpl:(k:Int)<(part xs zBody k).length:=by rw[Zi xs _ Aqa]; omega
  have hc:=to_Body xs[k] (by show (0:Nat)≤_; omega)
  refine Wz [7,63,127,46] ?_;refine M1 (Zs J J (hc) J J J) J J ?_;refine Wz [163,188,99] ?_
  exact⟨xs.length-(k+1),Aqa,(fun k:Nat=>(⟨_,[(0,L xs),(3,Aqg 0),(4,I k)],[.row 9 (part xs zBody k)]⟩:St)) (k+1),⟨k+1,Aqa,trivial,J⟩,X4 [0] Aqc J (Kj (Zj xs zBody h3 _ (by rfl) (by rfl)).symm) (.c J (.c J (.c J (.nil))))⟩
 ·have h3:¬((k:Int)<(els xs).length):=Gqd h
  refine Wz [31] ?_
  exact Xl J J (X1 [0] Aqc J (Kj (Zg xs _ Aqa).symm) J)
theorem sz_World (x:TWorld) (left:Int) (hg:Enc.gd x) (h0:0≤left) (h1:left≤1048576):Con Tryz.prog 209 [] [ag x,ai left] [] (I (szr (Enc.wt x) left)):=by
 obtain⟨g_Level,g_Tick,g_Seed,g_Scores,g_Bodies⟩:=hg
 have hw:Enc.wt x=Enc.wt x.Level+Enc.wt x.Scores+Enc.wt x.Bodies:=rfl
 have hm1:decide ((-1:Int)<0)=true:=rfl
 have hc_Level:=sz_Level x.Level (left) g_Level Aqa Aqa 
 by_cases n_Level:left<Enc.wt x.Level
 ·rw[Kq n_Level] at hc_Level
  refine Con.of Tryz.func209 J Tryz.ntmps209 J (fun E => ?_)
  refine Wz [21,101] ?_;refine zx (Qj J J (hc_Level) J) J ?_;refine Wz [119,26] ?_
  exact Xl J J (X1 [] Aqc J J (Xq (by rw[Kq Aqa])))
 rw[Kr Aqa] at hc_Level
 have hb_Level:decide (left-Enc.wt x.Level<0)=false:=Gqa Aqa 
 have hc_Scores:=sz_IntS x.Scores (left-Enc.wt x.Level) g_Scores Aqa Aqa 
 by_cases n_Scores:left-Enc.wt x.Level<Enc.wt x.Scores
 ·rw[Kq n_Scores] at hc_Scores
  refine Con.of Tryz.func209 J Tryz.ntmps209 J (fun E => ?_)
  refine Wz [21,101] ?_;refine zx (Qj J J (hc_Level) J) J ?_;refine Wz [27] ?_;refine zx (Qj J J (hc_Scores) J) J ?_;refine Wz [119,26] ?_
  exact Xl J J (X1 [] Aqc J J (Xq (by rw[Kq Aqa])))
 rw[Kr Aqa] at hc_Scores
 have hb_Scores:decide (left-Enc.wt x.Level-Enc.wt x.Scores<0)=false:=Gqa Aqa 
 have hc_Bodies:=sz_BodyS x.Bodies (left-Enc.wt x.Level-Enc.wt x.Scores) g_Bodies Aqa Aqa 
 by_cases n_Bodies:left-Enc.wt x.Level-Enc.wt x.Scores<Enc.wt x.Bodies
 ·rw[Kq n_Bodies] at hc_Bodies
  refine Con.of Tryz.func209 J Tryz.ntmps209 J (fun E => ?_)
  refine Wz [21,101] ?_;refine zx (Qj J J (hc_Level) J) J ?_;refine Wz [27] ?_;refine zx (Qj J J (hc_Scores) J) J ?_;refine Wz [27] ?_;refine zx (Qj J J (hc_Bodies) J) J ?_;refine Wz [119,26] ?_
  exact Xl J J (X1 [] Aqc J J (Xq (by rw[Kq Aqa])))
 rw[Kr Aqa] at hc_Bodies
 have hb_Bodies:decide (left-Enc.wt x.Level-Enc.wt x.Scores-Enc.wt x.Bodies<0)=false:=Gqa Aqa 
 refine Con.of Tryz.func209 J Tryz.ntmps209 J (fun E => ?_)
 refine Wz [21,101] ?_;refine zx (Qj J J (hc_Level) J) J ?_;refine Wz [27] ?_;refine zx (Qj J J (hc_Scores) J) J ?_;refine Wz [27] ?_;refine zx (Qj J J (hc_Bodies) J) J ?_;refine Wz [83,164] ?_
 exact Xl J J (X1 [] Aqc J J (Xq (by rw[Kr Aqa]; omega)))
theorem to_World (x:TWorld) (hg:Enc.wt x≤1048576):Con Tryz.prog 224 [] [ag x] (ownO (Enc.e x)) (.o (.ag (ownV 0 (Enc.e x)))):=by
 have hw:Enc.wt x=Enc.wt x.Level+Enc.wt x.Scores+Enc.wt x.Bodies:=rfl
 refine Con.of Tryz.func224 J Tryz.ntmps224 J (fun E => ?_)
 refine Wz [76,52,3,52,152] ?_;refine M1 (Zs J J (to_Level x.Level Aqa) J J J) J J ?_;refine Wz [55,48,23,45,45] ?_;refine M1 (Zs J J (to_IntS x.Scores Aqa) J J J) J J ?_;refine Wz [45] ?_;refine M1 (Zs J J (to_BodyS x.Bodies Aqa) J J J) J J ?_;refine Wz [30,100,49] ?_
 exact Xk J J J J (X1 [3,4,5] Aqc J J J)
theorem eq_World (x y:TWorld) (hg:Enc.gd x):Con Tryz.prog 243 [] [ag x,ag y] [] (B (decide (x=y))):=by
 obtain⟨g_Level,g_Tick,g_Seed,g_Scores,g_Bodies⟩:=hg
 by_cases e_Level:¬x.Level=y.Level
 ·have hc:=eq_Level x.Level y.Level g_Level
  rw[Gqa e_Level] at hc
  refine Con.of Tryz.func243 J Tryz.ntmps243 J (fun E => ?_)
  refine Wz [96,68] ?_;refine zx (Qj J J (hc) J) J ?_;refine Wz [5,26] ?_
  exact Xl J J (X1 [] Aqc J J (Xi (Gqa fun e=>e_Level (by rw[e])).symm))
 have e_Level:=Classical.not_not.1 e_Level
 have hc_Level:=eq_Level x.Level y.Level g_Level
 rw[Gqb e_Level] at hc_Level
 by_cases e_Tick:¬x.Tick=y.Tick
 ·have hk:decide (x.Tick≠y.Tick)=true:=by simp[e_Tick]
  refine Con.of Tryz.func243 J Tryz.ntmps243 J (fun E => ?_)
  refine Wz [96,68] ?_;refine zx (Qj J J (hc_Level) J) J ?_;refine Wz [16,41] ?_
  exact Xl J J (X1 [] Aqc J J (Xi (Gqa fun e=>e_Tick (by rw[e])).symm))
 have e_Tick:=Classical.not_not.1 e_Tick
 have k_Tick:decide (x.Tick≠y.Tick)=false:=by simp[e_Tick]
 by_cases e_Seed:¬x.Seed=y.Seed
 ·have hk:decide (x.Seed≠y.Seed)=true:=by simp[e_Seed]
  refine Con.of Tryz.func243 J Tryz.ntmps243 J (fun E => ?_)
  refine Wz [96,68] ?_;refine zx (Qj J J (hc_Level) J) J ?_;refine Wz [16,108,41] ?_
  exact Xl J J (X1 [] Aqc J J (Xi (Gqa fun e=>e_Seed (by rw[e])).symm))
 have e_Seed:=Classical.not_not.1 e_Seed
 have k_Seed:decide (x.Seed≠y.Seed)=false:=by simp[e_Seed]
 by_cases e_Scores:¬x.Scores=y.Scores
 ·have hc:=eq_IntS x.Scores y.Scores g_Scores
  rw[Gqa e_Scores] at hc
  refine Con.of Tryz.func243 J Tryz.ntmps243 J (fun E => ?_)
  refine Wz [96,68] ?_;refine zx (Qj J J (hc_Level) J) J ?_;refine Wz [16,115] ?_;refine zx (Qj J J (hc) J) J ?_;refine Wz [5,26] ?_
  exact Xl J J (X1 [] Aqc J J (Xi (Gqa fun e=>e_Scores (by rw[e])).symm))
 have e_Scores:=Classical.not_not.1 e_Scores
 have hc_Scores:=eq_IntS x.Scores y.Scores g_Scores
 rw[Gqb e_Scores] at hc_Scores
 by_cases e_Bodies:¬x.Bodies=y.Bodies
 ·have hc:=eq_BodyS x.Bodies y.Bodies g_Bodies
  rw[Gqa e_Bodies] at hc
  refine Con.of Tryz.func243 J Tryz.ntmps243 J (fun E => ?_)
  refine Wz [96,68] ?_;refine zx (Qj J J (hc_Level) J) J ?_;refine Wz [16,115] ?_;refine zx (Qj J J (hc_Scores) J) J ?_;refine Wz [16] ?_;refine zx (Qj J J (hc) J) J ?_;refine Wz [5,26] ?_
  exact Xl J J (X1 [] Aqc J J (Xi (Gqa fun e=>e_Bodies (by rw[e])).symm))
 have e_Bodies:=Classical.not_not.1 e_Bodies
 have hc_Bodies:=eq_BodyS x.Bodies y.Bodies g_Bodies
 rw[Gqb e_Bodies] at hc_Bodies
 refine Con.of Tryz.func243 J Tryz.ntmps243 J (fun E => ?_)
 refine Wz [96,68] ?_;refine zx (Qj J J (hc_Level) J) J ?_;refine Wz [16,115] ?_;refine zx (Qj J J (hc_Scores) J) J ?_;refine Wz [16] ?_;refine zx (Qj J J (hc_Bodies) J) J ?_;refine Wz [64,67] ?_
 exact Xl J J (X1 [] Aqc J J (Xi (Gqb (TWorld.same e_Level e_Tick e_Seed e_Scores e_Bodies)).symm))
theorem sz_Spectator (x:TSpectator) (left:Int) (hg:Enc.gd x) (h0:0≤left) (h1:left≤1048576):Con Tryz.prog 114 [] [ag x,ai left] [] (I (szr (Enc.wt x) left)):=by
 obtain⟨g_World,g_Gaps⟩:=hg
 have hw:Enc.wt x=Enc.wt x.World:=rfl
 have hm1:decide ((-1:Int)<0)=true:=rfl
 have hc_World:=sz_World x.World (left) g_World Aqa Aqa 
 by_cases n_World:left<Enc.wt x.World
 ·rw[Kq n_World] at hc_World
  refine Con.of Tryz.func114 J Tryz.ntmps114 J (fun E => ?_)
  refine Wz [21,101] ?_;refine zx (Qj J J (hc_World) J) J ?_;refine Wz [119,26] ?_
  exact Xl J J (X1 [] Aqc J J (Xq (by rw[Kq Aqa])))
 rw[Kr Aqa] at hc_World
 have hb_World:decide (left-Enc.wt x.World<0)=false:=Gqa Aqa 
 refine Con.of Tryz.func114 J Tryz.ntmps114 J (fun E => ?_)
 refine Wz [21,101] ?_;refine zx (Qj J J (hc_World) J) J ?_;refine Wz [83,164] ?_
 exact Xl J J (X1 [] Aqc J J (Xq (by rw[Kr Aqa]; omega)))
theorem to_Spectator (x:TSpectator) (hg:Enc.wt x≤1048576):Con Tryz.prog 129 [] [ag x] (ownO (Enc.e x)) (.o (.ag (ownV 0 (Enc.e x)))):=by
 have hw:Enc.wt x=Enc.wt x.World:=rfl
 refine Con.of Tryz.func129 J Tryz.ntmps129 J (fun E => ?_)
 refine Wz [76,52,3,52,152] ?_;refine M1 (Zs J J (to_World x.World Aqa) J J J) J J ?_;refine Wz [55,48,23,30,100,49] ?_
 exact Xk J J J J (X1 [3,4,5] Aqc J J J)
theorem eq_Spectator (x y:TSpectator) (hg:Enc.gd x):Con Tryz.prog 147 [] [ag x,ag y] [] (B (decide (x=y))):=by
 obtain⟨g_World,g_Gaps⟩:=hg
 by_cases e_World:¬x.World=y.World
 ·have hc:=eq_World x.World y.World g_World
  rw[Gqa e_World] at hc
  refine Con.of Tryz.func147 J Tryz.ntmps147 J (fun E => ?_)
  refine Wz [96,68] ?_;refine zx (Qj J J (hc) J) J ?_;refine Wz [5,26] ?_
  exact Xl J J (X1 [] Aqc J J (Xi (Gqa fun e=>e_World (by rw[e])).symm))
 have e_World:=Classical.not_not.1 e_World
 have hc_World:=eq_World x.World y.World g_World
 rw[Gqb e_World] at hc_World
 by_cases e_Gaps:¬x.Gaps=y.Gaps
 ·have hk:decide (x.Gaps≠y.Gaps)=true:=by simp[e_Gaps]
  refine Con.of Tryz.func147 J Tryz.ntmps147 J (fun E => ?_)
  refine Wz [96,68] ?_;refine zx (Qj J J (hc_World) J) J ?_;refine Wz [16,41] ?_
  exact Xl J J (X1 [] Aqc J J (Xi (Gqa fun e=>e_Gaps (by rw[e])).symm))
 have e_Gaps:=Classical.not_not.1 e_Gaps
 have k_Gaps:decide (x.Gaps≠y.Gaps)=false:=by simp[e_Gaps]
 refine Con.of Tryz.func147 J Tryz.ntmps147 J (fun E => ?_)
 refine Wz [96,68] ?_;refine zx (Qj J J (hc_World) J) J ?_;refine Wz [16,118,33,67] ?_
 exact Xl J J (X1 [] Aqc J J (Xi (Gqb (TSpectator.same e_World e_Gaps)).symm))

/-! ### Marks -/
end
section
open Go.RowKit

structure TTrack where
 Inputs:(List Int)
 deriving DecidableEq
instance:Enc TTrack:=⟨1,Aqa,fun x => [sl x.Inputs],fun _=>rfl,fun x=>Enc.gd x.Inputs,fun x=>Enc.wt x.Inputs⟩
theorem TTrack.same {x y:TTrack} (h0:x.Inputs=y.Inputs):x=y:=by cases x; cases y; simp_all
structure TSave where
 Tick:Int
 Delta:ByteArray
 deriving DecidableEq
instance:Enc TSave:=⟨2,Aqa,fun x => [.v (.int .i64 x.Tick),.v (.string x.Delta)],fun _=>rfl,fun x=>Enc.gd x.Tick∧Enc.gd x.Delta,fun x=>Enc.wt x.Delta⟩
theorem TSave.same {x y:TSave} (h0:x.Tick=y.Tick) (h1:x.Delta=y.Delta):x=y:=by cases x; cases y; simp_all
structure TFault where
 Tick:Int
 Player:Int
 Add:Int
 deriving DecidableEq
instance:Enc TFault:=⟨3,Aqa,fun x => [.v (.int .i64 x.Tick),.v (.int .i64 x.Player),.v (.int .i64 x.Add)],fun _=>rfl,fun x=>Enc.gd x.Tick∧Enc.gd x.Player∧Enc.gd x.Add,fun x=>0⟩
theorem TFault.same {x y:TFault} (h0:x.Tick=y.Tick) (h1:x.Player=y.Player) (h2:x.Add=y.Add):x=y:=by cases x; cases y; simp_all
structure TPacket where
 From:Int
 Tick:Int
 First:Int
 Inputs:(List Int)
 Acks:(List Int)
 SumTick:Int
 Sum:Int
 Time:Int
 Echo:Int
 deriving DecidableEq
instance:Enc TPacket:=⟨9,Aqa,fun x => [.v (.int .i64 x.From),.v (.int .i64 x.Tick),.v (.int .i64 x.First),sl x.Inputs,sl x.Acks,.v (.int .i64 x.SumTick),.v (.int .i64 x.Sum),.v (.int .i64 x.Time),.v (.int .i64 x.Echo)],fun _=>rfl,fun x=>Enc.gd x.From∧Enc.gd x.Tick∧Enc.gd x.First∧Enc.gd x.Inputs∧Enc.gd x.Acks∧Enc.gd x.SumTick∧Enc.gd x.Sum∧Enc.gd x.Time∧Enc.gd x.Echo,fun x=>Enc.wt x.Inputs+Enc.wt x.Acks⟩
theorem TPacket.same {x y:TPacket} (h0:x.From=y.From) (h1:x.Tick=y.Tick) (h2:x.First=y.First) (h3:x.Inputs=y.Inputs) (h4:x.Acks=y.Acks) (h5:x.SumTick=y.SumTick) (h6:x.Sum=y.Sum) (h7:x.Time=y.Time) (h8:x.Echo=y.Echo):x=y:=by cases x; cases y; simp_all
structure TPeer where
 Me:Int
 Delay:Int
 Ahead:Int
 Seed:Int
 Tracks:(List TTrack)
 Base:TWorld
 Now:TWorld
 Used:(List (List Int))
 Saves:(List TSave)
 Sums:(List Int)
 Fault:TFault
 Rolls:Int
 Again:Int
 deriving DecidableEq
instance:Enc TPeer:=⟨23,Aqa,fun x => [.v (.int .i64 x.Me),.v (.int .i64 x.Delay),.v (.int .i64 x.Ahead),.v (.int .i64 x.Seed),sl x.Tracks,sl x.Base.Level.Rows,.v (.int .i64 x.Base.Tick),.v (.int .i64 x.Base.Seed),sl x.Base.Scores,sl x.Base.Bodies,sl x.Now.Level.Rows,.v (.int .i64 x.Now.Tick),.v (.int .i64 x.Now.Seed),sl x.Now.Scores,sl x.Now.Bodies,sl x.Used,sl x.Saves,sl x.Sums,.v (.int .i64 x.Fault.Tick),.v (.int .i64 x.Fault.Player),.v (.int .i64 x.Fault.Add),.v (.int .i64 x.Rolls),.v (.int .i64 x.Again)],fun _=>rfl,fun x=>Enc.gd x.Me∧Enc.gd x.Delay∧Enc.gd x.Ahead∧Enc.gd x.Seed∧Enc.gd x.Tracks∧Enc.gd x.Base∧Enc.gd x.Now∧Enc.gd x.Used∧Enc.gd x.Saves∧Enc.gd x.Sums∧Enc.gd x.Fault∧Enc.gd x.Rolls∧Enc.gd x.Again,fun x=>Enc.wt x.Tracks+Enc.wt x.Base+Enc.wt x.Now+Enc.wt x.Used+Enc.wt x.Saves+Enc.wt x.Sums+Enc.wt x.Fault⟩
theorem TPeer.same {x y:TPeer} (h0:x.Me=y.Me) (h1:x.Delay=y.Delay) (h2:x.Ahead=y.Ahead) (h3:x.Seed=y.Seed) (h4:x.Tracks=y.Tracks) (h5:x.Base=y.Base) (h6:x.Now=y.Now) (h7:x.Used=y.Used) (h8:x.Saves=y.Saves) (h9:x.Sums=y.Sums) (h10:x.Fault=y.Fault) (h11:x.Rolls=y.Rolls) (h12:x.Again=y.Again):x=y:=by cases x; cases y; simp_all

theorem sz_Track (x:TTrack) (left:Int) (hg:Enc.gd x) (h0:0≤left) (h1:left≤1048576):Con Tryz.prog 287 [] [ag x,ai left] [] (I (szr (Enc.wt x) left)):=by
 have g_Inputs:Enc.gd x.Inputs:=hg
 have hw:Enc.wt x=Enc.wt x.Inputs:=rfl
 have hm1:decide ((-1:Int)<0)=true:=rfl
 have hc_Inputs:=sz_IntS x.Inputs (left) g_Inputs Aqa Aqa 
 by_cases n_Inputs:left<Enc.wt x.Inputs
 ·rw[Kq n_Inputs] at hc_Inputs
  refine Con.of Tryz.func287 J Tryz.ntmps287 J (fun E => ?_)
  refine Wz [21,75] ?_;refine zx (Qj J J (hc_Inputs) J) J ?_;refine Wz [119,26] ?_
  exact Xl J J (X1 [] Aqc J J (Xq (by rw[Kq Aqa])))
 rw[Kr Aqa] at hc_Inputs
 have hb_Inputs:decide (left-Enc.wt x.Inputs<0)=false:=Gqa Aqa 
 refine Con.of Tryz.func287 J Tryz.ntmps287 J (fun E => ?_)
 refine Wz [21,75] ?_;refine zx (Qj J J (hc_Inputs) J) J ?_;refine Wz [83,164] ?_
 exact Xl J J (X1 [] Aqc J J (Xq (by rw[Kr Aqa]; omega)))
theorem to_Track (x:TTrack) (hg:Enc.wt x≤1048576):Con Tryz.prog 296 [] [ag x] (ownO (Enc.e x)) (.o (.ag (ownV 0 (Enc.e x)))):=by
 have hw:Enc.wt x=Enc.wt x.Inputs:=rfl
 refine Con.of Tryz.func296 J Tryz.ntmps296 J (fun E => ?_)
 refine Wz [76,52,3,52,23] ?_;refine M1 (Zs J J (to_IntS x.Inputs Aqa) J J J) J J ?_;refine Wz [30,100,49] ?_
 exact Xk J J J J (X1 [3] Aqc J J J)
theorem eq_Track (x y:TTrack) (hg:Enc.gd x):Con Tryz.prog 302 [] [ag x,ag y] [] (B (decide (x=y))):=by
 have g_Inputs:Enc.gd x.Inputs:=hg
 by_cases e_Inputs:¬x.Inputs=y.Inputs
 ·have hc:=eq_IntS x.Inputs y.Inputs g_Inputs
  rw[Gqa e_Inputs] at hc
  refine Con.of Tryz.func302 J Tryz.ntmps302 J (fun E => ?_)
  refine Wz [42] ?_;refine zx (Qj J J (hc) J) J ?_;refine Wz [5,26] ?_
  exact Xl J J (X1 [] Aqc J J (Xi (Gqa fun e=>e_Inputs (by rw[e])).symm))
 have e_Inputs:=Classical.not_not.1 e_Inputs
 have hc_Inputs:=eq_IntS x.Inputs y.Inputs g_Inputs
 rw[Gqb e_Inputs] at hc_Inputs
 refine Con.of Tryz.func302 J Tryz.ntmps302 J (fun E => ?_)
 refine Wz [42] ?_;refine zx (Qj J J (hc_Inputs) J) J ?_;refine Wz [64,67] ?_
 exact Xl J J (X1 [] Aqc J J (Xi (Gqb (TTrack.same e_Inputs)).symm))
theorem sz_Save (x:TSave) (left:Int) (hg:Enc.gd x) (h0:0≤left) (h1:left≤1048576):Con Tryz.prog 289 [] [ag x,ai left] [] (I (szr (Enc.wt x) left)):=by
 obtain⟨g_Tick,g_Delta⟩:=hg
 have hw:Enc.wt x=Enc.wt x.Delta:=rfl
 have hm1:decide ((-1:Int)<0)=true:=rfl
 have hgd_Delta:x.Delta.size≤9223372036854775807:=g_Delta
 have hs_Delta:Enc.wt x.Delta=x.Delta.size:=rfl
 by_cases n_Delta:left-(x.Delta.size:Int)<0
 ·have hb:decide (left-(x.Delta.size:Int)<0)=true:=Gqb n_Delta
  refine Con.of Tryz.func289 J Tryz.ntmps289 J (fun E => ?_)
  refine Wz [21,10,19,116,84,119,26] ?_
  exact Xl J J (X1 [] Aqc J J (Xq (by rw[Kq Aqa])))
 have hb_Delta:decide (left-(x.Delta.size:Int)<0)=false:=Gqa n_Delta
 refine Con.of Tryz.func289 J Tryz.ntmps289 J (fun E => ?_)
 refine Wz [21,10,19,116,84,83,164] ?_
 exact Xl J J (X1 [] Aqc J J (Xq (by rw[Kr Aqa]; omega)))
theorem to_Save (x:TSave) (hg:Enc.wt x≤1048576):Con Tryz.prog 298 [] [ag x] (ownO (Enc.e x)) (.o (.ag (ownV 0 (Enc.e x)))):=by
 have hw:Enc.wt x=Enc.wt x.Delta:=rfl
 refine Con.of Tryz.func298 J Tryz.ntmps298 J (fun E => ?_)
 refine Wz [76,52,3,52,23,45,30,100,49] ?_
 exact Xk J J J J (X1 [] Aqc J J J)
theorem eq_Save (x y:TSave) (hg:Enc.gd x):Con Tryz.prog 304 [] [ag x,ag y] [] (B (decide (x=y))):=by
 obtain⟨g_Tick,g_Delta⟩:=hg
 by_cases e_Tick:¬x.Tick=y.Tick
 ·have hk:decide (x.Tick≠y.Tick)=true:=by simp[e_Tick]
  refine Con.of Tryz.func304 J Tryz.ntmps304 J (fun E => ?_)
  refine Wz [42,41] ?_
  exact Xl J J (X1 [] Aqc J J (Xi (Gqa fun e=>e_Tick (by rw[e])).symm))
 have e_Tick:=Classical.not_not.1 e_Tick
 have k_Tick:decide (x.Tick≠y.Tick)=false:=by simp[e_Tick]
 by_cases e_Delta:¬x.Delta=y.Delta
 ·have hk:decide (x.Delta≠y.Delta)=true:=by simp[e_Delta]
  refine Con.of Tryz.func304 J Tryz.ntmps304 J (fun E => ?_)
  refine Wz [42,108,241,26] ?_
  exact Xl J J (X1 [] Aqc J J (Xi (Gqa fun e=>e_Delta (by rw[e])).symm))
 have e_Delta:=Classical.not_not.1 e_Delta
 have k_Delta:decide (x.Delta≠y.Delta)=false:=by simp[e_Delta]
 refine Con.of Tryz.func304 J Tryz.ntmps304 J (fun E => ?_)
 refine Wz [42,108,241,33,67] ?_
 exact Xl J J (X1 [] Aqc J J (Xi (Gqb (TSave.same e_Tick e_Delta)).symm))
theorem to_Fault (x:TFault) (hg:Enc.wt x≤1048576):Con Tryz.prog 226 [] [ag x] (ownO (Enc.e x)) (.o (.ag (ownV 0 (Enc.e x)))):=by
 refine Con.of Tryz.func226 J Tryz.ntmps226 J (fun E => ?_)
 refine Wz [76,52,3,52,23,45,45,30,100,49] ?_
 exact Xk J J J J (X1 [] Aqc J J J)
theorem eq_Fault (x y:TFault) (hg:Enc.gd x):Con Tryz.prog 245 [] [ag x,ag y] [] (B (decide (x=y))):=by
 obtain⟨g_Tick,g_Player,g_Add⟩:=hg
 by_cases e_Tick:¬x.Tick=y.Tick
 ·have hk:decide (x.Tick≠y.Tick)=true:=by simp[e_Tick]
  refine Con.of Tryz.func245 J Tryz.ntmps245 J (fun E => ?_)
  refine Wz [42,41] ?_
  exact Xl J J (X1 [] Aqc J J (Xi (Gqa fun e=>e_Tick (by rw[e])).symm))
 have e_Tick:=Classical.not_not.1 e_Tick
 have k_Tick:decide (x.Tick≠y.Tick)=false:=by simp[e_Tick]
 by_cases e_Player:¬x.Player=y.Player
 ·have hk:decide (x.Player≠y.Player)=true:=by simp[e_Player]
  refine Con.of Tryz.func245 J Tryz.ntmps245 J (fun E => ?_)
  refine Wz [42,108,41] ?_
  exact Xl J J (X1 [] Aqc J J (Xi (Gqa fun e=>e_Player (by rw[e])).symm))
 have e_Player:=Classical.not_not.1 e_Player
 have k_Player:decide (x.Player≠y.Player)=false:=by simp[e_Player]
 by_cases e_Add:¬x.Add=y.Add
 ·have hk:decide (x.Add≠y.Add)=true:=by simp[e_Add]
  refine Con.of Tryz.func245 J Tryz.ntmps245 J (fun E => ?_)
  refine Wz [42,115,41] ?_
  exact Xl J J (X1 [] Aqc J J (Xi (Gqa fun e=>e_Add (by rw[e])).symm))
 have e_Add:=Classical.not_not.1 e_Add
 have k_Add:decide (x.Add≠y.Add)=false:=by simp[e_Add]
 refine Con.of Tryz.func245 J Tryz.ntmps245 J (fun E => ?_)
 refine Wz [42,115,118,33,67] ?_
 exact Xl J J (X1 [] Aqc J J (Xi (Gqb (TFault.same e_Tick e_Player e_Add)).symm))
theorem sz_TrackS (xs:List TTrack) (left:Int) (hg:Enc.gd xs) (h0:0≤left) (h1:left≤1048576):Con Tryz.prog 208 [] [al xs,ai left] [] (I (szr (Enc.wt xs) left)):=by
 have hlen:=Yi xs
 have hx:=hg.1
 have hw:Enc.wt xs=xs.length+wts xs:=rfl
 refine Con.of Tryz.func208 J Tryz.ntmps208 J (fun E => ?_)
 refine Wz [12,9,14,84,73,38] ?_
 refine Xb J (fun h => ?_) (fun h => ?_)
 ·refine Wz [39] ?_
  have h2:=Gqc h
  exact Xl J J (X1 [] Aqc J J (Xq (by rw[Kq Aqa])))
 have h2:¬(left-((els xs).length:Int)<0):=Gqd h
 refine Wz [15,11] ?_
 refine Xh (fun m st=>∃ k:Nat,k+m=xs.length∧(((xs.length:Int)+wts (xs.take k)≤left))∧st=(⟨_,[(0,L xs),(1,I (left-(xs.length+wts (xs.take k)))),(5,I k)],[]⟩:St)) (xs.length) ⟨(fun k:Nat=>(⟨_,[(0,L xs),(1,I (left-(xs.length+wts (xs.take k)))),(5,I k)],[]⟩:St)) 0,⟨0,Aqa,by simp[wts]; omega,J⟩,X4 [] Aqc J Aqb (.c J (.cons (Xq (by simp[els,wts])) (.c J (.nil))))⟩ ?_
 rintro m_A _ ⟨k,hk_A,hp_A,rfl⟩
 refine Wz [59] ?_
 refine Xb J (fun h => ?_) (fun h => ?_)
 ·have h3:k<xs.length:=by have:=Gqc h; omega
  have hat:=Yg h3
  have hstep:=Ky xs k h3
  have hle:=Kz xs (k+1)
  have hc:=sz_Track xs[k] (left-((xs.length:Int)+wts (xs.take k))) (hg.2 _ (Gqe h3)) Aqa Aqa 
  by_cases h4:left-((xs.length:Int)+wts (xs.take k))<Enc.wt xs[k]
  ·rw[Kq h4] at hc
   have hb:decide ((-1:Int)<0)=true:=rfl
   refine Wz [7,9,46,0] ?_;refine zx (Qj J J (hc) J) J ?_;refine Wz [40,177,54] ?_
   exact Xl J J (X1 [] Aqc J J (Xq (by rw[Kq Aqa])))
  ·rw[Kr Aqa] at hc
   have hb:decide (left-((xs.length:Int)+wts (xs.take k))-Enc.wt xs[k]<0)=false:=Gqa Aqa 
   refine Wz [7,9,46,0] ?_;refine zx (Qj J J (hc) J) J ?_;refine Wz [40,44,62] ?_
   exact⟨xs.length-(k+1),Aqa,(fun k:Nat=>(⟨_,[(0,L xs),(1,I (left-(xs.length+wts (xs.take k)))),(5,I k)],[]⟩:St)) (k+1),⟨k+1,Aqa,Aqa,J⟩,X4 [] Aqc J Aqb (.c J (.cons (Xq (by rw[hstep]; omega)) (.c J (.nil))))⟩
 ·have h3:¬((k:Int)<(els xs).length):=Gqd h
  have hk:wts (xs.take k)=wts xs:=by rw[Gqh Aqa]
  refine Wz [31] ?_
  exact Xl J J (X1 [] Aqc J J (Xq (by rw[Kr Aqa]; omega)))
theorem sz_SaveS (xs:List TSave) (left:Int) (hg:Enc.gd xs) (h0:0≤left) (h1:left≤1048576):Con Tryz.prog 210 [] [al xs,ai left] [] (I (szr (Enc.wt xs) left)):=by
 have hlen:=Yi xs
 have hx:=hg.1
 have hw:Enc.wt xs=xs.length+wts xs:=rfl
 refine Con.of Tryz.func210 J Tryz.ntmps210 J (fun E => ?_)
 refine Wz [12,9,14,84,73,38] ?_
 refine Xb J (fun h => ?_) (fun h => ?_)
 ·refine Wz [39] ?_
  have h2:=Gqc h
  exact Xl J J (X1 [] Aqc J J (Xq (by rw[Kq Aqa])))
 have h2:¬(left-((els xs).length:Int)<0):=Gqd h
 refine Wz [15,11] ?_
 refine Xh (fun m st=>∃ k:Nat,k+m=xs.length∧(((xs.length:Int)+wts (xs.take k)≤left))∧st=(⟨_,[(0,L xs),(1,I (left-(xs.length+wts (xs.take k)))),(5,I k)],[]⟩:St)) (xs.length) ⟨(fun k:Nat=>(⟨_,[(0,L xs),(1,I (left-(xs.length+wts (xs.take k)))),(5,I k)],[]⟩:St)) 0,⟨0,Aqa,by simp[wts]; omega,J⟩,X4 [] Aqc J Aqb (.c J (.cons (Xq (by simp[els,wts])) (.c J (.nil))))⟩ ?_
 rintro m_A _ ⟨k,hk_A,hp_A,rfl⟩
 refine Wz [59] ?_
 refine Xb J (fun h => ?_) (fun h => ?_)
 ·have h3:k<xs.length:=by have:=Gqc h; omega
  have hat:=Yg h3
  have hstep:=Ky xs k h3
  have hle:=Kz xs (k+1)
  have hc:=sz_Save xs[k] (left-((xs.length:Int)+wts (xs.take k))) (hg.2 _ (Gqe h3)) Aqa Aqa 
  by_cases h4:left-((xs.length:Int)+wts (xs.take k))<Enc.wt xs[k]
  ·rw[Kq h4] at hc
   have hb:decide ((-1:Int)<0)=true:=rfl
   refine Wz [7,9,46,0] ?_;refine zx (Qj J J (hc) J) J ?_;refine Wz [40,177,54] ?_
   exact Xl J J (X1 [] Aqc J J (Xq (by rw[Kq Aqa])))
  ·rw[Kr Aqa] at hc
   have hb:decide (left-((xs.length:Int)+wts (xs.take k))-Enc.wt xs[k]<0)=false:=Gqa Aqa 
   refine Wz [7,9,46,0] ?_;refine zx (Qj J J (hc) J) J ?_;refine Wz [40,44,62] ?_
   exact⟨xs.length-(k+1),Aqa,(fun k:Nat=>(⟨_,[(0,L xs),(1,I (left-(xs.length+wts (xs.take k)))),(5,I k)],[]⟩:St)) (k+1),⟨k+1,Aqa,Aqa,J⟩,X4 [] Aqc J Aqb (.c J (.cons (Xq (by rw[hstep]; omega)) (.c J (.nil))))⟩
 ·have h3:¬((k:Int)<(els xs).length):=Gqd h
  have hk:wts (xs.take k)=wts xs:=by rw[Gqh Aqa]
  refine Wz [31] ?_
  exact Xl J J (X1 [] Aqc J J (Xq (by rw[Kr Aqa]; omega)))
def zSave:List T := [.v (.int .i64 0),.v (.string ⟨#[]⟩)]
def zTrack:List T := [.sl 1 []]
theorem to_TrackS (xs:List TTrack) (hg:Enc.wt xs≤1048576):Con Tryz.prog 223 [] [al xs] [.row 1 (els xs)] (Aqg 0):=by
 have hlen:=Yi xs
 have hw:Enc.wt xs=xs.length+wts xs:=rfl
 refine Con.of Tryz.func223 J Tryz.ntmps223 J (fun E => ?_)
 refine Wz [12,10,14,229,2,11] ?_;refine Xh (fun m st=>∃ k:Nat,k+m=xs.length∧(True)∧st=(⟨_,[(0,L xs),(3,Aqg 0),(4,I k)],[.row 1 (part xs zTrack k)]⟩:St)) (xs.length) ⟨(fun k:Nat=>(⟨_,[(0,L xs),(3,Aqg 0),(4,I k)],[.row 1 (part xs zTrack k)]⟩:St)) 0,⟨0,Aqa,trivial,J⟩,X4 [0] Aqc J (Kj (Zk xs _)) (.c J (.c J (.c J (.nil))))⟩ ?_
 rintro m_A _ ⟨k,hk_A,hp_A,rfl⟩
 refine Wz [59] ?_
 refine Xb J (fun h => ?_) (fun h => ?_)
 ·have h3:k<xs.length:=by have:=Gqc h; omega
  have hat:=Yg h3
  have hz:=Zh xs zTrack h3
  have hpl:(k:Int)<(part xs zTrack k).length:=by rw[Zi xs _ Aqa]; omega
  have hwt:Enc.wt xs[k]≤wts xs:=Kx xs _ (Gqe h3)
  have hc:=to_Track xs[k] Aqa 
  refine Wz [7,63,127,46] ?_;refine M1 (Zs J J (hc) J J J) J J ?_;refine Wz [163,188,99] ?_
  exact⟨xs.length-(k+1),Aqa,(fun k:Nat=>(⟨_,[(0,L xs),(3,Aqg 0),(4,I k)],[.row 1 (part xs zTrack k)]⟩:St)) (k+1),⟨k+1,Aqa,trivial,J⟩,X4 [0] Aqc J (Kj (Zj xs zTrack h3 _ (by rfl) (by rfl)).symm) (.c J (.c J (.c J (.nil))))⟩
 ·have h3:¬((k:Int)<(els xs).length):=Gqd h
  refine Wz [31] ?_
  exact Xl J J (X1 [0] Aqc J (Kj (Zg xs _ Aqa).symm) J)
theorem to_SaveS (xs:List TSave) (hg:Enc.wt xs≤1048576):Con Tryz.prog 225 [] [al xs] [.row 2 (els xs)] (Aqg 0):=by
 have hlen:=Yi xs
 have hw:Enc.wt xs=xs.length+wts xs:=rfl
 refine Con.of Tryz.func225 J Tryz.ntmps225 J (fun E => ?_)
 refine Wz [12,10,14,214,2,11] ?_;refine Xh (fun m st=>∃ k:Nat,k+m=xs.length∧(True)∧st=(⟨_,[(0,L xs),(3,Aqg 0),(4,I k)],[.row 2 (part xs zSave k)]⟩:St)) (xs.length) ⟨(fun k:Nat=>(⟨_,[(0,L xs),(3,Aqg 0),(4,I k)],[.row 2 (part xs zSave k)]⟩:St)) 0,⟨0,Aqa,trivial,J⟩,X4 [0] Aqc J (Kj (Zk xs _)) (.c J (.c J (.c J (.nil))))⟩ ?_
 rintro m_A _ ⟨k,hk_A,hp_A,rfl⟩
 refine Wz [59] ?_
 refine Xb J (fun h => ?_) (fun h => ?_)
 ·have h3:k<xs.length:=by have:=Gqc h; omega
  have hat:=Yg h3
  have hz:=Zh xs zSave h3
  have hpl:(k:Int)<(part xs zSave k).length:=by rw[Zi xs _ Aqa]; omega
  have hwt:Enc.wt xs[k]≤wts xs:=Kx xs _ (Gqe h3)
  have hc:=to_Save xs[k] Aqa 
  refine Wz [7,63,127,46] ?_;refine M1 (Zs J J (hc) J J J) J J ?_;refine Wz [163,188,99] ?_
  exact⟨xs.length-(k+1),Aqa,(fun k:Nat=>(⟨_,[(0,L xs),(3,Aqg 0),(4,I k)],[.row 2 (part xs zSave k)]⟩:St)) (k+1),⟨k+1,Aqa,trivial,J⟩,X4 [0] Aqc J (Kj (Zj xs zSave h3 _ (by rfl) (by rfl)).symm) (.c J (.c J (.c J (.nil))))⟩
 ·have h3:¬((k:Int)<(els xs).length):=Gqd h
  refine Wz [31] ?_
  exact Xl J J (X1 [0] Aqc J (Kj (Zg xs _ Aqa).symm) J)
theorem eq_TrackS (xs ys:List TTrack) (hn:Enc.gd xs):Con Tryz.prog 242 [] [al xs,al ys] [] (B (decide (xs=ys))):=by
 have hn1:=hn.1
 have hlx:=Yi xs
 have hly:=Yi ys
 by_cases hl:xs.length=ys.length
 ·have hb:decide (((els xs).length:Int)≠((els ys).length:Int))=false:=by rw[hlx,hly,hl]; simp
  refine Con.of Tryz.func242 J Tryz.ntmps242 J (fun E => ?_)
  refine Wz [105,14,118,33,11] ?_;refine Xh (fun m st=>∃ k:Nat,k+m=xs.length∧(xs.take k=ys.take k)∧st=(⟨_,[(0,L xs),(1,L ys),(5,I k)],[]⟩:St)) (xs.length) ⟨_,⟨0,Aqa,Aqd,J⟩,X3 [] Aqb⟩ ?_
  rintro m_A _ ⟨k,hk_A,hp_A,rfl⟩
  refine Wz [59] ?_
  refine Xb J (fun h => ?_) (fun h => ?_)
  ·have h3:k<xs.length:=by have:=Gqc h; omega
   have h4:k<ys.length:=Aqa
   have hat:=Yg h3
   have hat2:=Yg h4
   have hc:=eq_Track xs[k] ys[k] (hn.2 _ (Gqe h3))
   by_cases he:xs[k]=ys[k]
   ·rw[Gqb he] at hc
    refine Wz [88,128,95,95] ?_;refine DR.s (Qj J J (hc) J) J J ?_;refine Wz [74,13,81,62] ?_
    exact⟨xs.length-(k+1),Aqa,_,⟨k+1,Aqa,Yp h3 h4 hp_A he,J⟩,X3 [] Aqb⟩
   ·rw[Gqa he] at hc
    refine Wz [88,128,95,95] ?_;refine DR.s (Qj J J (hc) J) J J ?_;refine Wz [74,13,24,54] ?_
    exact Xl J J (X1 [] Aqc J J (Xi (eq_ne h3 h4 he).symm))
  ·have h3:¬((k:Int)<(els xs).length):=Gqd h
   refine Wz [20,67] ?_
   exact Xl J J (X1 [] Aqc J J (Xi (Yn Aqa hl hp_A).symm))
 ·have hb:decide (((els xs).length:Int)≠((els ys).length:Int))=true:=by rw[hlx,hly]; simp; omega
  refine Con.of Tryz.func242 J Tryz.ntmps242 J (fun E => ?_)
  refine Wz [105,14,41] ?_
  exact Xl J J (X1 [] Aqc J J (Xi (Yo hl).symm))
theorem eq_SaveS (xs ys:List TSave) (hn:Enc.gd xs):Con Tryz.prog 244 [] [al xs,al ys] [] (B (decide (xs=ys))):=by
 have hn1:=hn.1
 have hlx:=Yi xs
 have hly:=Yi ys
 by_cases hl:xs.length=ys.length
 ·have hb:decide (((els xs).length:Int)≠((els ys).length:Int))=false:=by rw[hlx,hly,hl]; simp
  refine Con.of Tryz.func244 J Tryz.ntmps244 J (fun E => ?_)
  refine Wz [105,14,118,33,11] ?_;refine Xh (fun m st=>∃ k:Nat,k+m=xs.length∧(xs.take k=ys.take k)∧st=(⟨_,[(0,L xs),(1,L ys),(5,I k)],[]⟩:St)) (xs.length) ⟨_,⟨0,Aqa,Aqd,J⟩,X3 [] Aqb⟩ ?_
  rintro m_A _ ⟨k,hk_A,hp_A,rfl⟩
  refine Wz [59] ?_
  refine Xb J (fun h => ?_) (fun h => ?_)
  ·have h3:k<xs.length:=by have:=Gqc h; omega
   have h4:k<ys.length:=Aqa
   have hat:=Yg h3
   have hat2:=Yg h4
   have hc:=eq_Save xs[k] ys[k] (hn.2 _ (Gqe h3))
   by_cases he:xs[k]=ys[k]
   ·rw[Gqb he] at hc
    refine Wz [88,128,95,95] ?_;refine DR.s (Qj J J (hc) J) J J ?_;refine Wz [74,13,81,62] ?_
    exact⟨xs.length-(k+1),Aqa,_,⟨k+1,Aqa,Yp h3 h4 hp_A he,J⟩,X3 [] Aqb⟩
   ·rw[Gqa he] at hc
    refine Wz [88,128,95,95] ?_;refine DR.s (Qj J J (hc) J) J J ?_;refine Wz [74,13,24,54] ?_
    exact Xl J J (X1 [] Aqc J J (Xi (eq_ne h3 h4 he).symm))
  ·have h3:¬((k:Int)<(els xs).length):=Gqd h
   refine Wz [20,67] ?_
   exact Xl J J (X1 [] Aqc J J (Xi (Yn Aqa hl hp_A).symm))
 ·have hb:decide (((els xs).length:Int)≠((els ys).length:Int))=true:=by rw[hlx,hly]; simp; omega
  refine Con.of Tryz.func244 J Tryz.ntmps244 J (fun E => ?_)
  refine Wz [105,14,41] ?_
  exact Xl J J (X1 [] Aqc J J (Xi (Yo hl).symm))
end
section
open Go.RowKit

def inR (n lo hi:Int):Bool:=decide (lo≤n)&&decide (n≤hi)
theorem Yx {n lo hi:Int}:inR n lo hi=true↔lo≤n∧n≤hi:=by simp[inR]
theorem Xo (n lo hi:Int):Con Tryz.prog 94 [] [ai n,ai lo,ai hi] [] (B (inR n lo hi)):=by
 refine Con.of Tryz.func94 J Tryz.ntmps94 J (fun E => ?_)
 refine Wz [12,9,207,0,146,267,242,25,53] ?_
 exact Xl J J (X1 [] Aqc J J J)
theorem X0 (n lo hi:Int):Con Tryz.prog 84 [] [ai n,ai lo,ai hi] [] (B (inR n lo hi)):=by
 refine Con.of Tryz.func84 J Tryz.ntmps84 J (fun E => ?_)
 refine Wz [12,9,207,0,146,267,242,25,53] ?_
 exact Xl J J (X1 [] Aqc J J J)

section
variable {α:Type} {p:α→Bool} {xs:List α} {k:Nat}
theorem X8 (h:(xs.take k).all p=true) (hk:k<xs.length) (hp:p xs[k]=true):(xs.take (k+1)).all p=true:=by
 rw[Gxk hk,List.all_append,h]
 simp[hp]
theorem X9 (hk:k<xs.length) (hp:p xs[k]=false):xs.all p=false:=by
 rw[List.all_eq_false]
 exact⟨_,Gqe hk,by simp[hp]⟩
theorem X7 (h:(xs.take k).all p=true) (hk:xs.length≤k):xs.all p=true:=by rwa[Gqh hk] at h
end
def inOk (xs:List Int):Bool:=xs.all fun n=>inR n 0 15
def rowOk (xs:List Int) (n:Int):Bool:=decide ((xs.length:Int)=n)&&inOk xs

theorem Xr (xs:List Int) (hn:Enc.gd xs):Con Tryz.prog 190 [] [al xs] [] (B (inOk xs)):=by
 have hn1:=hn.1
 have hlx:=Yi xs
 refine Con.of Tryz.func190 J Tryz.ntmps190 J (fun E => ?_)
 refine Wz [105,97] ?_;refine Xh (fun m st=>∃ k:Nat,k+m=xs.length∧((xs.take k).all (fun n=>inR n 0 15)=true)∧st=(⟨_,[(5,L xs),(6,I (els xs).length),(7,I k)],[]⟩:St)) (xs.length) ⟨_,⟨0,Aqa,Aqd,J⟩,X3 [] Aqb⟩ ?_
 rintro m_A _ ⟨k,hk_A,hp_A,rfl⟩
 refine Wz [3,38,17] ?_
 refine Xb J (fun h => ?_) (fun h => ?_)
 ·have h3:k<xs.length:=by have:=Gqc h; omega
  have hat:=Yg h3
  refine Wz [7,3,80,40] ?_;refine zx (Qj J J (Xo xs[k] 0 15) J) J ?_;refine Wz [5,6] ?_
  refine Xb J (fun h4 => ?_) (fun h4 => ?_)
  ·refine Wz [77,179] ?_
   refine Wz [69] ?_
   exact Xl J J (X1 [] Aqc J J (Xi (X9 h3 (by simpa using h4)).symm))
  ·refine Wz [123,50,57,18,0,85] ?_
   refine Q0 ?_
   exact⟨xs.length-(k+1),Aqa,_,⟨k+1,Aqa,X8 hp_A h3 (by simpa using h4),J⟩,X3 [] Aqb⟩
 ·have h3:¬((k:Int)<(els xs).length):=Gqd h
  refine Wz [20,67] ?_
  exact Xl J J (X1 [] Aqc J J (Xi (X7 hp_A Aqa).symm))
theorem I_rowOk (xs:List Int) (n:Int) (hn:Enc.gd xs):Con Tryz.prog 95 [] [al xs,ai n] [] (B (rowOk xs n)):=by
 have hlx:=Yi xs
 refine Con.of Tryz.func95 J Tryz.ntmps95 J (fun E => ?_)
 refine Wz [12,10,117,189,0,146] ?_;refine zx (Qt.grdT J J J (.hit .stop) (fun hgrd=>Qj J J (Xr xs hn) J)) J ?_;refine Wz [25,53] ?_
 exact Xl J J (X1 [] Aqc J J (Xi (by rw[hlx]; rfl)))
theorem S_rowOk (xs:List Int) (n:Int) (hn:Enc.gd xs):Con Tryz.prog 252 [] [al xs,ai n] [] (B (rowOk xs n)):=by
 have hn1:=hn.1
 have hlx:=Yi xs
 refine Con.of Tryz.func252 J Tryz.ntmps252 J (fun E => ?_)
 refine Wz [12,11] ?_;refine Xh (fun m st=>∃ k:Nat,k+m=xs.length∧((xs.take k).all (fun n=>inR n 0 15)=true)∧st=(⟨_,[(0,L xs),(1,I n),(5,I k)],[]⟩:St)) (xs.length) ⟨_,⟨0,Aqa,Aqd,J⟩,X3 [] Aqb⟩ ?_
 rintro m_A _ ⟨k,hk_A,hp_A,rfl⟩
 refine Wz [59] ?_
 refine Xb J (fun h => ?_) (fun h => ?_)
 ·have h3:k<xs.length:=by have:=Gqc h; omega
  have hat:=Yg h3
  refine Wz [7,9,80] ?_;refine zx (Qj J J (X0 xs[k] 0 15) J) J ?_;refine Wz [5,6] ?_
  refine Xb J (fun h4 => ?_) (fun h4 => ?_)
  ·refine Wz [77,179] ?_
   refine Wz [69] ?_
   exact Xl J J (X1 [] Aqc J J (Xi (by unfold rowOk inOk; rw[X9 h3 (by simpa using h4)]; simp)))
  ·refine Wz [123,243,18] ?_
   refine Wz [2] ?_
   exact⟨xs.length-(k+1),Aqa,_,⟨k+1,Aqa,X8 hp_A h3 (by simpa using h4),J⟩,X3 [] Aqb⟩
 ·have h3:¬((k:Int)<(els xs).length):=Gqd h
  refine Wz [20,10,117,189,53] ?_
  exact Xl J J (X1 [] Aqc J J (Xi (by unfold rowOk inOk; rw[X7 hp_A Aqa,hlx]; simp)))
end
section
open Go.RowKit

abbrev Seen:=Bool×Bool×Bool×Bool
def tileM (e:Bool) (t:Int) (s:Seen×Bool):Option (Seen×Bool) :=
 if t=35 then some s else if e then none else
 if t=49 then (if s.1.1 then none else some ((true,s.1.2),true)) else
 if t=50 then (if s.1.2.1 then none else some ((s.1.1,true,s.1.2.2),true)) else
 if t=51 then (if s.1.2.2.1 then none else some ((s.1.1,s.1.2.1,true,s.1.2.2.2),true)) else
 if t=52 then (if s.1.2.2.2 then none else some ((s.1.1,s.1.2.1,s.1.2.2.1,true),true)) else
 if t=111∨t=46 then some (s.1,true) else none
def colsM (row:ByteArray) (er:Bool) (w:Nat) (s:Seen×Bool):Nat→Option (Seen×Bool)
 |0=>some s
 |c+1=>match colsM row er w s c with
  |none=>none
  |some s'=>tileM (er || decide (c=0) || decide (c+1=w)) (byteAt row c) s'
def rowsM (rows:List ByteArray) (w:Nat):Nat→Option (Seen×Bool)
 |0=>some ((false,false,false,false),false)
 | r+1=>match rowsM rows w r with
  |none=>none
  |some s=>match rows[r]? with
   |none=>none
   |some row=>if row.size=w then colsM row (decide (r=0) || decide (r+1=rows.length)) w s w else none
def widthM (rows:List ByteArray):Nat:=match rows[0]? with
 |some row=>row.size
 |none=>0
def levelOk (l:TLevel):Bool:=decide (3≤l.Rows.length)&&decide (l.Rows.length≤12)&&decide (4≤widthM l.Rows)&&decide (widthM l.Rows≤20)&&match rowsM l.Rows (widthM l.Rows) l.Rows.length with
 |some s=>s.2
 |none=>false

@[reducible] def vb (b:Bool):V1 := .rd [] (.v (.bool b))
section
variable {rows:List ByteArray} {row:ByteArray} {w k c:Nat} {s s':Seen×Bool} {er:Bool}
theorem rows_none {n:Nat} (h:rowsM rows w k=none) (hk:k≤n):rowsM rows w n=none:=by
 induction n with
 | zero => have:k=0:=Aqa
           subst this; exact h
 | succ n ih =>
  rcases Gqq n k with h1 | h1
  ·have:k=n+1:=Aqa
   subst this; exact h
  ·simp[rowsM,ih h1]
theorem cols_none {n:Nat} (h:colsM row er w s c=none) (hc:c≤n):colsM row er w s n=none:=by
 induction n with
 | zero => have:c=0:=Aqa
           subst this; exact h
 | succ n ih =>
  rcases Gqq n c with h1 | h1
  ·have:c=n+1:=Aqa
   subst this; exact h
  ·simp[colsM,ih h1]
theorem rows_next (h:rowsM rows w k=some s) (hk:k<rows.length) (hw:rows[k].size=w):rowsM rows w (k+1)=colsM rows[k] (decide (k=0) || decide (k+1=rows.length)) w s w:=by
 rw[rowsM,h]
 simp[Gqf hk,hw]
theorem rows_bad (hk:k<rows.length) (hw:rows[k].size≠w):rowsM rows w (k+1)=none:=by
 rw[rowsM]
 cases rowsM rows w k with
 |none=>rfl
 |some s=>simp[Gqf hk,hw]
theorem cols_next (h:colsM row er w s c=some s'):colsM row er w s (c+1)=tileM (er || decide (c=0) || decide (c+1=w)) (byteAt row c) s':=by
 rw[colsM,h]
theorem level_no {l:TLevel} (hk:k<l.Rows.length) (hw:widthM l.Rows=w) (h:rowsM l.Rows w (k+1)=none):levelOk l=false:=by
 unfold levelOk
 rw[hw,rows_none h Aqa]
 simp
theorem width_at (h:0<rows.length):widthM rows=rows[0].size:=by simp[widthM,Gqf h]
end
end
section
open Go.RowKit

theorem I_LevelOk (x:TLevel) (hg:Enc.gd x):Con Tryz.prog 101 [] [ag x] [] (B (levelOk x)):=by
 obtain⟨rows⟩:=x
 have hn:Enc.gd rows:=hg
 have hn1:=hn.1
 have hlx:=Yi rows
 refine Con.of Tryz.func101 J Tryz.ntmps101 J (fun E => ?_)
 refine Wz [21,34,14,153,102,140,215,51] ?_
 refine Xb J (fun h => ?_) (fun h => ?_)
 ·simp only[Gqr,decide_eq_true_eq] at h
  refine Wz [39] ?_
  exact Xl J J (X1 [] Aqc J J (Xi (by simp[levelOk]; omega)))
 simp only[Gql,decide_eq_false_iff_not] at h
 have h0:0<rows.length:=Aqa
 have hat0:(els rows)[(0:Int).toNat]? = some (Enc.e rows[0]):=Yg h0
 have hw:=width_at h0
 refine Wz [15,23,80,116,73,153,0,109,230,51] ?_
 refine Xb J (fun h1 => ?_) (fun h1 => ?_)
 ·simp only[Gqr,decide_eq_true_eq] at h1
  refine Wz [39] ?_
  exact Xl J J (X1 [] Aqc J J (Xi (by simp[levelOk]; omega)))
 simp only[Gql,decide_eq_false_iff_not] at h1
 obtain⟨w,hw'⟩:∃ w,w=rows[0].size:=⟨_,rfl⟩
 rw[←hw'] at hw h1
 refine Wz [15,3,52,12,34,117,97] ?_;refine Xh (fun m st=>∃ (k:Nat) (s:Seen×Bool),k+m=rows.length∧(rowsM rows w k=some s)∧st=(⟨_,[(1,Aqf 0),(3,I w),(4,Aqf 1),(5,B s.2),(33,L rows),(34,I (els rows).length),(35,I k)],[.box [.rd [] (sl rows)],.box [vb false,vb s.1.1,vb s.1.2.1,vb s.1.2.2.1,vb s.1.2.2.2]]⟩:St)) (rows.length) ⟨(fun (k:Nat) (s:Seen×Bool)=>(⟨_,[(1,Aqf 0),(3,I w),(4,Aqf 1),(5,B s.2),(33,L rows),(34,I (els rows).length),(35,I k)],[.box [.rd [] (sl rows)],.box [vb false,vb s.1.1,vb s.1.2.1,vb s.1.2.2.1,vb s.1.2.2.2]]⟩:St)) 0 (((false,false,false,false),false)),⟨0,((false,false,false,false),false),Aqa,J,J⟩,X4 [0,1] Aqc J Aqb (.c J (.cons (Xq Aqa) (.c J (.c J (.c J (.c J (.c J (.nil))))))))⟩ ?_
 rintro m_A _ ⟨k,s,hk_A,hp_A,rfl⟩
 refine Wz [3,38,17] ?_
 refine Xb J (fun h => ?_) (fun h => ?_)
 ·have h3:k<rows.length:=by have:=Gqc h; omega
  have hat:=Yg h3
  have hgk:rows[k].size≤9223372036854775807:=hn.2 _ (Gqe h3)
  refine Wz [7,10,80,32,73,116,0,158,6] ?_
  refine Xb J (fun h4 => ?_) (fun h4 => ?_)
  ·have h4:¬rows[k].size=w:=by have:=Gqc h4; omega
   refine Wz [77,103,147,69] ?_
   exact Xl J J (X1 [] Aqc J J (Xi (level_no (l:=⟨rows⟩) h3 hw (rows_bad h3 h4)).symm))
  have h4:rows[k].size=w:=by have:=Gqd h4; omega
  have hrn:=rows_next hp_A h3 h4
  obtain⟨er,her⟩:∃ er,er=(decide (k=0) || decide (k+1=rows.length)):=⟨_,rfl⟩
  rw[←her] at hrn
  refine Wz [15,12,178] ?_;refine Xh (fun m st=>∃ (c:Nat) (u:Seen×Bool),c+m=w∧(colsM rows[k] er w s c=some u)∧st=(⟨_,[(1,Aqf 0),(3,I w),(4,Aqf 1),(5,B u.2),(6,I k),(7,S rows[k]),(8,I c),(33,L rows),(34,I (els rows).length),(35,I k)],[.box [.rd [] (sl rows)],.box [vb false,vb u.1.1,vb u.1.2.1,vb u.1.2.2.1,vb u.1.2.2.2]]⟩:St)) (w) ⟨_,⟨0,s,Aqa,J,J⟩,X3 [0,1] Aqb⟩ ?_
  rintro m_D _ ⟨c,u,hk_D,hp_D,rfl⟩
  refine Wz [43,38] ?_
  refine Xb J (fun h5 => ?_) (fun h5 => ?_)
  ·have h5:c<w:=by have:=Gqc h5; omega
   have hcn:=cols_next hp_D
   obtain⟨t,ht⟩:∃ t,byteAt rows[k] (c:Int).toNat=t:=⟨_,rfl⟩
   rw[show byteAt rows[k] c=t from ht] at hcn
   have htb:0≤t∧t≤255:=ht▸byteAt_lt _ _
   obtain⟨⟨sa,sb,sc,sd⟩,so⟩:=u
   obtain⟨e,he⟩:∃ e,e=(er || decide (c=0) || decide (c+1=w)):=⟨_,rfl⟩
   rw[←he] at hcn
   refine Wz [7,9,208,40,189,0,109,181,209,216] ?_;refine zx (Qt.grdF J J J (.hit (.hit (.hit (.hit .stop)))) (fun hgrd=>Xc J J J J Aqa)) J ?_;refine zx (Qt.grdF J J J (.hit (.hit (.hit (.hit (.hit .stop))))) (fun hgrd=>Zu J J J J)) J ?_;refine Wz [110,0,109] ?_;refine zx (Qt.grdF J J J (.hit .stop) (fun hgrd=>Zu J J J J)) J ?_;refine Wz [110,0,109,244] ?_;refine zx (Qt.grdF J J J (.hit (.hit .stop)) (fun hgrd=>Xc J J J J Aqa)) J ?_;refine zx (Qt.grdF J J J (.hit (.hit (.hit .stop))) (fun hgrd=>Zu J J J J)) J ?_;refine Wz [110,2,43,146,245,25,6] ?_
   have hee:(decide ((k:Int)=0) || decide ((k:Int)=((els rows).length:Int)-1) || decide ((c:Int)=0) || decide ((c:Int)=(w:Int)-1))=e:=by
    rw[he,her,hlx]
    have g1:decide ((k:Int)=0)=decide (k=0):=Aqd
    have g2:decide ((k:Int)=(rows.length:Int)-1)=decide (k+1=rows.length):=decide_eq_decide.2 Aqa 
    have g3:decide ((c:Int)=0)=decide (c=0):=Aqd
    have g4:decide ((c:Int)=(w:Int)-1)=decide (c+1=w):=decide_eq_decide.2 Aqa 
    rw[g1,g2,g3,g4]
   clear he her
   have hbad:colsM rows[k] er w s (c+1)=none→levelOk ⟨rows⟩=false:=fun hc=>level_no (l:=⟨rows⟩) h3 hw (hrn.trans (cols_none hc Aqa))
   refine Xb J (fun h6 => ?_) (fun h6 => ?_)
   ·rw[hee] at h6
    simp only[Gqi,decide_eq_true_eq] at h6
    refine Wz [77,103,147,141] ?_
    exact Xl J J (X1 [] Aqc J J (Xi (hbad (hcn.trans (by simp[tileM,h6]))).symm))
   rw[hee] at h6
   have h7:t=35∨e=false:=by
    simp only[Gxp,decide_eq_false_iff_not,Classical.not_not] at h6
    exact h6.symm
   clear h6 hee
   refine AWP.pre (st':=(⟨_,[(1,Aqf 0),(3,I w),(4,Aqf 1),(5,B so),(6,I k),(7,S rows[k]),(8,I c),(9,VI .u8 t),(33,L rows),(34,I (els rows).length),(35,I k)],[.box [.rd [] (sl rows)],.box [vb false,vb sa,vb sb,vb sc,vb sd]]⟩:St)) ?_ (X3 [0,1] Aqb)
   rcases h7 with rfl | h7
   ·refine Wz [7,10] ?_
    refine Wz [268,0,47,22,2,106,10,217,0,47,22,0,47,22,2,106,123,50,10,217,81,62] ?_
    exact⟨w-(c+1),Aqa,_,⟨c+1,((sa,sb,sc,sd),so),Aqa,hcn.trans (by simp[tileM]),J⟩,X3 [0,1] Aqb⟩
   subst h7
   rcases (by omega:t=35∨t=49∨t=50∨t=51∨t=52∨t=111∨t=46∨(t≠35∧t≠49∧t≠50∧t≠51∧t≠52∧t≠111∧t≠46)) with rfl | rfl | rfl | rfl | rfl | rfl | rfl | ht7
   ·refine Wz [7,10] ?_
    refine Wz [268,0,47,22,2,106,10,217,0,47,22,0,47,22,2,106,123,50,10,217,81,62] ?_
    exact⟨w-(c+1),Aqa,_,⟨c+1,((sa,sb,sc,sd),so),Aqa,hcn.trans (by simp[tileM]),J⟩,X3 [0,1] Aqb⟩
   ·refine Wz [7,10] ?_
    refine Wz [182,28,194,60,2,144,56,154,195,124,6] ?_
    refine Xb J (fun h8 => ?_) (fun h8 => ?_)
    ·have h8:sa=true:=h8
     subst h8
     refine Wz [77,103,103,147,141] ?_
     exact Xl J J (X1 [] Aqc J J (Xi (hbad (hcn.trans (by simp[tileM]))).symm))
    ·have h8:sa=false:=h8
     subst h8
     refine Wz [15,94,154,195,196,85,50,10,149,24,57,87] ?_
     exact⟨w-(c+1),Aqa,_,⟨c+1,((true,sb,sc,sd),true),Aqa,hcn.trans (by simp[tileM]),J⟩,X3 [0,1] Aqb⟩
   ·refine Wz [7,10] ?_
    refine Wz [182,28,194,60,2,144,56,154,195,124,6] ?_
    refine Xb J (fun h8 => ?_) (fun h8 => ?_)
    ·have h8:sb=true:=h8
     subst h8
     refine Wz [77,103,103,147,141] ?_
     exact Xl J J (X1 [] Aqc J J (Xi (hbad (hcn.trans (by simp[tileM]))).symm))
    ·have h8:sb=false:=h8
     subst h8
     refine Wz [15,94,154,195,196,85,50,10,149,24,57,87] ?_
     exact⟨w-(c+1),Aqa,_,⟨c+1,((sa,true,sc,sd),true),Aqa,hcn.trans (by simp[tileM]),J⟩,X3 [0,1] Aqb⟩
   ·refine Wz [7,10] ?_
    refine Wz [182,28,194,60,2,144,56,154,195,124,6] ?_
    refine Xb J (fun h8 => ?_) (fun h8 => ?_)
    ·have h8:sc=true:=h8
     subst h8
     refine Wz [77,103,103,147,141] ?_
     exact Xl J J (X1 [] Aqc J J (Xi (hbad (hcn.trans (by simp[tileM]))).symm))
    ·have h8:sc=false:=h8
     subst h8
     refine Wz [15,94,154,195,196,85,50,10,149,24,57,87] ?_
     exact⟨w-(c+1),Aqa,_,⟨c+1,((sa,sb,true,sd),true),Aqa,hcn.trans (by simp[tileM]),J⟩,X3 [0,1] Aqb⟩
   ·refine Wz [7,10] ?_
    refine Wz [182,28,194,60,2,144,56,154,195,124,6] ?_
    refine Xb J (fun h8 => ?_) (fun h8 => ?_)
    ·have h8:sd=true:=h8
     subst h8
     refine Wz [77,103,103,147,141] ?_
     exact Xl J J (X1 [] Aqc J J (Xi (hbad (hcn.trans (by simp[tileM]))).symm))
    ·have h8:sd=false:=h8
     subst h8
     refine Wz [15,94,154,195,196,85,50,10,149,24,57,87] ?_
     exact⟨w-(c+1),Aqa,_,⟨c+1,((sa,sb,sc,true),true),Aqa,hcn.trans (by simp[tileM]),J⟩,X3 [0,1] Aqb⟩
   ·refine Wz [7,10] ?_
    refine Wz [182,28] ?_;refine zx (Z6 (b:=false) J J J J Aqc) J ?_;refine Wz [60,2,106,10,149,28,217,60,0,47,22,2,106,123,50,10,149,24,57,87] ?_
    exact⟨w-(c+1),Aqa,_,⟨c+1,((sa,sb,sc,sd),true),Aqa,hcn.trans (by simp[tileM]),J⟩,X3 [0,1] Aqb⟩
   ·refine Wz [7,10] ?_
    refine Wz [268,0,47,22,2,106,10,149,28,149,60,28,217,60,2,106,123,50,10,149,24,57,87] ?_
    exact⟨w-(c+1),Aqa,_,⟨c+1,((sa,sb,sc,sd),true),Aqa,hcn.trans (by simp[tileM]),J⟩,X3 [0,1] Aqb⟩
   ·refine Wz [7,10,207] ?_
    refine Wz [0,146] ?_;refine zx (Qt.grdT J J J (.hit .stop) (fun hgrd=>q_leq J J J J)) J ?_;refine Wz [25,2] ?_
    refine Xb J (fun h8 => ?_) (fun h8 => ?_)
    ·simp only[Gqi,decide_eq_true_eq] at h8
     omega
    refine Wz [10,158,0,146,245,25,0,146,245,25,2] ?_
    refine Xb J (fun h9 => ?_) (fun h9 => ?_)
    ·refine Wz [77,172,103,197] ?_
     refine Wz [103,141] ?_
     exact Xl J J (X1 [] Aqc J J (Xi (hbad (hcn.trans (by simp[tileM,ht7]))).symm))
    ·simp only[Gxp,decide_eq_false_iff_not,Classical.not_not] at h9
     omega
  ·have h5:c=w:=by have:=Gqd h5; omega
   rw[h5] at hp_D
   rw[hp_D] at hrn
   refine Wz [218,50,57,18,0,6] ?_
   exact⟨rows.length-(k+1),Aqa,_,⟨k+1,u,Aqa,hrn,J⟩,X3 [0,1] Aqb⟩
 ·have h3:¬((k:Int)<(els rows).length):=Gqd h
  have hk:k=rows.length:=Aqa
  subst hk
  refine Wz [31] ?_
  exact Xl J J (X1 [] Aqc J J (Xi (by
   unfold levelOk
   rw[hw,hp_A]
   have:3≤rows.length∧rows.length≤12∧4≤w∧w≤20:=Aqa
   simp[this])))
end
end Go.Proofs.YtfklmiijhcajdaaGreat
