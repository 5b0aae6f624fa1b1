/-
  Rules, data and contracts of functions: part 16 of the proof.
  Conditions: those that each theorem names.
-/
import Derived.Test.YtoecjaohdnoenaaGreatDDNewMRowk14
set_option linter.unusedVariables false
set_option linter.unusedSimpArgs false
set_option maxRecDepth 8000
set_option maxHeartbeats 8000000
namespace Go.Proofs.YtoecjaohdnoenaaGreat
section
open Go.RowKit

structure TBody where
 Kind:Int
 Owner:Int
 X:Int
 Y:Int
 VX:Int
 VY:Int
 Aim:Int
 Life:Int
 Timer:Int
 deriving DecidableEq
instance:Enc TBody:=⟨9,by omega,fun x => [.v (.int .i64 x.Kind),.v (.int .i64 x.Owner),.v (.int .i64 x.X),.v (.int .i64 x.Y),.v (.int .i64 x.VX),.v (.int .i64 x.VY),.v (.int .i64 x.Aim),.v (.int .i64 x.Life),.v (.int .i64 x.Timer)],fun _=>rfl,fun x=>Enc.gd x.Kind∧Enc.gd x.Owner∧Enc.gd x.X∧Enc.gd x.Y∧Enc.gd x.VX∧Enc.gd x.VY∧Enc.gd x.Aim∧Enc.gd x.Life∧Enc.gd x.Timer,fun x=>0⟩
theorem TBody.same {x y:TBody} (h0:x.Kind=y.Kind) (h1:x.Owner=y.Owner) (h2:x.X=y.X) (h3:x.Y=y.Y) (h4:x.VX=y.VX) (h5:x.VY=y.VY) (h6:x.Aim=y.Aim) (h7:x.Life=y.Life) (h8:x.Timer=y.Timer):x=y:=by cases x; cases y; simp_all
structure TWorld where
 Level:TLevel
 Tick:Int
 Seed:Int
 Scores:(List Int)
 Bodies:(List TBody)
 deriving DecidableEq
instance:Enc TWorld:=⟨5,by omega,fun x => [sl x.Level.Rows,.v (.int .i64 x.Tick),.v (.int .i64 x.Seed),sl x.Scores,sl x.Bodies],fun _=>rfl,fun x=>Enc.gd x.Level∧Enc.gd x.Tick∧Enc.gd x.Seed∧Enc.gd x.Scores∧Enc.gd x.Bodies,fun x=>Enc.wt x.Level+Enc.wt x.Scores+Enc.wt x.Bodies⟩
theorem TWorld.same {x y:TWorld} (h0:x.Level=y.Level) (h1:x.Tick=y.Tick) (h2:x.Seed=y.Seed) (h3:x.Scores=y.Scores) (h4:x.Bodies=y.Bodies):x=y:=by cases x; cases y; simp_all
structure TSpectator where
 World:TWorld
 Gaps:Int
 deriving DecidableEq
instance:Enc TSpectator:=⟨6,by omega,fun x => [sl x.World.Level.Rows,.v (.int .i64 x.World.Tick),.v (.int .i64 x.World.Seed),sl x.World.Scores,sl x.World.Bodies,.v (.int .i64 x.Gaps)],fun _=>rfl,fun x=>Enc.gd x.World∧Enc.gd x.Gaps,fun x=>Enc.wt x.World⟩
theorem TSpectator.same {x y:TSpectator} (h0:x.World=y.World) (h1:x.Gaps=y.Gaps):x=y:=by cases x; cases y; simp_all

theorem eq_Body (x y:TBody) (hg:Enc.gd x):Con Tryz.prog 218 [] [ag x,ag y] [] (B (decide (x=y))):=by
 obtain⟨g_Kind,g_Owner,g_X,g_Y,g_VX,g_VY,g_Aim,g_Life,g_Timer⟩:=hg
 by_cases e_Kind:¬x.Kind=y.Kind
 ·have hk:decide (x.Kind≠y.Kind)=true:=by simp[e_Kind]
  refine Con.of Tryz.func218 J Tryz.ntmps218 J (fun E => ?_)
  refine Wz [19,18] ?_
  exact Xi J J (Xt [] (by decide) J J (Xf (Gqa fun e=>e_Kind (by rw[e])).symm))
 have e_Kind:=Classical.not_not.1 e_Kind
 have k_Kind:decide (x.Kind≠y.Kind)=false:=by simp[e_Kind]
 by_cases e_Owner:¬x.Owner=y.Owner
 ·have hk:decide (x.Owner≠y.Owner)=true:=by simp[e_Owner]
  refine Con.of Tryz.func218 J Tryz.ntmps218 J (fun E => ?_)
  refine Wz [19,78,18] ?_
  exact Xi J J (Xt [] (by decide) J J (Xf (Gqa fun e=>e_Owner (by rw[e])).symm))
 have e_Owner:=Classical.not_not.1 e_Owner
 have k_Owner:decide (x.Owner≠y.Owner)=false:=by simp[e_Owner]
 by_cases e_X:¬x.X=y.X
 ·have hk:decide (x.X≠y.X)=true:=by simp[e_X]
  refine Con.of Tryz.func218 J Tryz.ntmps218 J (fun E => ?_)
  refine Wz [19,85,18] ?_
  exact Xi J J (Xt [] (by decide) J J (Xf (Gqa fun e=>e_X (by rw[e])).symm))
 have e_X:=Classical.not_not.1 e_X
 have k_X:decide (x.X≠y.X)=false:=by simp[e_X]
 by_cases e_Y:¬x.Y=y.Y
 ·have hk:decide (x.Y≠y.Y)=true:=by simp[e_Y]
  refine Con.of Tryz.func218 J Tryz.ntmps218 J (fun E => ?_)
  refine Wz [19,85,78,18] ?_
  exact Xi J J (Xt [] (by decide) J J (Xf (Gqa fun e=>e_Y (by rw[e])).symm))
 have e_Y:=Classical.not_not.1 e_Y
 have k_Y:decide (x.Y≠y.Y)=false:=by simp[e_Y]
 by_cases e_VX:¬x.VX=y.VX
 ·have hk:decide (x.VX≠y.VX)=true:=by simp[e_VX]
  refine Con.of Tryz.func218 J Tryz.ntmps218 J (fun E => ?_)
  refine Wz [19,99,18] ?_
  exact Xi J J (Xt [] (by decide) J J (Xf (Gqa fun e=>e_VX (by rw[e])).symm))
 have e_VX:=Classical.not_not.1 e_VX
 have k_VX:decide (x.VX≠y.VX)=false:=by simp[e_VX]
 by_cases e_VY:¬x.VY=y.VY
 ·have hk:decide (x.VY≠y.VY)=true:=by simp[e_VY]
  refine Con.of Tryz.func218 J Tryz.ntmps218 J (fun E => ?_)
  refine Wz [19,99,78,18] ?_
  exact Xi J J (Xt [] (by decide) J J (Xf (Gqa fun e=>e_VY (by rw[e])).symm))
 have e_VY:=Classical.not_not.1 e_VY
 have k_VY:decide (x.VY≠y.VY)=false:=by simp[e_VY]
 by_cases e_Aim:¬x.Aim=y.Aim
 ·have hk:decide (x.Aim≠y.Aim)=true:=by simp[e_Aim]
  refine Con.of Tryz.func218 J Tryz.ntmps218 J (fun E => ?_)
  refine Wz [19,99,85,18] ?_
  exact Xi J J (Xt [] (by decide) J J (Xf (Gqa fun e=>e_Aim (by rw[e])).symm))
 have e_Aim:=Classical.not_not.1 e_Aim
 have k_Aim:decide (x.Aim≠y.Aim)=false:=by simp[e_Aim]
 by_cases e_Life:¬x.Life=y.Life
 ·have hk:decide (x.Life≠y.Life)=true:=by simp[e_Life]
  refine Con.of Tryz.func218 J Tryz.ntmps218 J (fun E => ?_)
  refine Wz [19,99,85,78,18] ?_
  exact Xi J J (Xt [] (by decide) J J (Xf (Gqa fun e=>e_Life (by rw[e])).symm))
 have e_Life:=Classical.not_not.1 e_Life
 have k_Life:decide (x.Life≠y.Life)=false:=by simp[e_Life]
 by_cases e_Timer:¬x.Timer=y.Timer
 ·have hk:decide (x.Timer≠y.Timer)=true:=by simp[e_Timer]
  refine Con.of Tryz.func218 J Tryz.ntmps218 J (fun E => ?_)
  refine Wz [19,99,99,18] ?_
  exact Xi J J (Xt [] (by decide) J J (Xf (Gqa fun e=>e_Timer (by rw[e])).symm))
 have e_Timer:=Classical.not_not.1 e_Timer
 have k_Timer:decide (x.Timer≠y.Timer)=false:=by simp[e_Timer]
 refine Con.of Tryz.func218 J Tryz.ntmps218 J (fun E => ?_)
 refine Wz [19,99,99,62,26,138] ?_
 exact Xi J J (Xt [] (by decide) J J (Xf (Gqb (TBody.same e_Kind e_Owner e_X e_Y e_VX e_VY e_Aim e_Life e_Timer)).symm))
theorem eq_BodyS (xs ys:List TBody) (hn:Enc.gd xs):Con Tryz.prog 141 [] [al xs,al ys] [] (B (decide (xs=ys))):=by
 have hn1:=hn.1
 have hlx:=X6 xs
 have hly:=X6 ys
 by_cases hl:xs.length=ys.length
 ·have hb:decide (((els xs).length:Int)≠((els ys).length:Int))=false:=by rw[hlx,hly,hl]; simp
  refine Con.of Tryz.func141 J Tryz.ntmps141 J (fun E => ?_)
  refine Wz [79,62,26,39] ?_;refine Xe (fun m st=>∃ k:Nat,k+m=xs.length∧(xs.take k=ys.take k)∧st=(⟨_,[(0,L xs),(1,L ys),(5,I k)],[]⟩:St)) (xs.length) ⟨_,⟨0,by omega,by simp,J⟩,Xv [] (by kernel_rfl)⟩ ?_
  rintro m_A _ ⟨k,hk_A,hp_A,rfl⟩
  refine Wz [23,12] ?_
  refine Q8 J (fun h => ?_) (fun h => ?_)
  ·have h3:k<xs.length:=by have:=Gqc h; omega
   have h4:k<ys.length:=by omega
   have hat:=X5 h3
   have hat2:=X5 h4
   have hc:=eq_Body xs[k] ys[k] (hn.2 _ (Gqf h3))
   by_cases he:xs[k]=ys[k]
   ·rw[Gqb he] at hc
    refine Wz [45,103,54,54] ?_;refine DR.s (Qj J J (hc) J) J J ?_;refine Wz [87,57] ?_
    exact⟨xs.length-(k+1),by omega,_,⟨k+1,by omega,Yd h3 h4 hp_A he,J⟩,Xv [] (by kernel_rfl)⟩
   ·rw[Gqa he] at hc
    refine Wz [45,103,54,54] ?_;refine DR.s (Qj J J (hc) J) J J ?_;refine Wz [87,74] ?_
    exact Xi J J (Xt [] (by decide) J J (Xf (eq_ne h3 h4 he).symm))
  ·have h3:¬((k:Int)<(els xs).length):=Gqg h
   refine Wz [94] ?_
   exact Xi J J (Xt [] (by decide) J J (Xf (Yb (by omega) hl hp_A).symm))
 ·have hb:decide (((els xs).length:Int)≠((els ys).length:Int))=true:=by rw[hlx,hly]; simp; omega
  refine Con.of Tryz.func141 J Tryz.ntmps141 J (fun E => ?_)
  refine Wz [79,18] ?_
  exact Xi J J (Xt [] (by decide) J J (Xf (Yc hl).symm))
theorem wts_body:∀ xs:List TBody,wts xs=0
 | []=>rfl
 |x::xs=>by simp[wts,wts_body xs,Enc.wt]
theorem eq_World (x y:TWorld) (hg:Enc.gd x):Con Tryz.prog 48 [] [ag x,ag y] [] (B (decide (x=y))):=by
 obtain⟨g_Level,g_Tick,g_Seed,g_Scores,g_Bodies⟩:=hg
 by_cases e_Level:¬x.Level=y.Level
 ·have hc:=eq_Level x.Level y.Level g_Level
  rw[Gqa e_Level] at hc
  refine Con.of Tryz.func48 J Tryz.ntmps48 J (fun E => ?_)
  refine Wz [51,41] ?_;refine zx (Qj J J (hc) J) J ?_;refine Wz [5,37] ?_
  exact Xi J J (Xt [] (by decide) J J (Xf (Gqa fun e=>e_Level (by rw[e])).symm))
 have e_Level:=Classical.not_not.1 e_Level
 have hc_Level:=eq_Level x.Level y.Level g_Level
 rw[Gqb e_Level] at hc_Level
 by_cases e_Tick:¬x.Tick=y.Tick
 ·have hk:decide (x.Tick≠y.Tick)=true:=by simp[e_Tick]
  refine Con.of Tryz.func48 J Tryz.ntmps48 J (fun E => ?_)
  refine Wz [51,41] ?_;refine zx (Qj J J (hc_Level) J) J ?_;refine Wz [6,18] ?_
  exact Xi J J (Xt [] (by decide) J J (Xf (Gqa fun e=>e_Tick (by rw[e])).symm))
 have e_Tick:=Classical.not_not.1 e_Tick
 have k_Tick:decide (x.Tick≠y.Tick)=false:=by simp[e_Tick]
 by_cases e_Seed:¬x.Seed=y.Seed
 ·have hk:decide (x.Seed≠y.Seed)=true:=by simp[e_Seed]
  refine Con.of Tryz.func48 J Tryz.ntmps48 J (fun E => ?_)
  refine Wz [51,41] ?_;refine zx (Qj J J (hc_Level) J) J ?_;refine Wz [6,78,18] ?_
  exact Xi J J (Xt [] (by decide) J J (Xf (Gqa fun e=>e_Seed (by rw[e])).symm))
 have e_Seed:=Classical.not_not.1 e_Seed
 have k_Seed:decide (x.Seed≠y.Seed)=false:=by simp[e_Seed]
 by_cases e_Scores:¬x.Scores=y.Scores
 ·have hc:=eq_IntS x.Scores y.Scores g_Scores
  rw[Gqa e_Scores] at hc
  refine Con.of Tryz.func48 J Tryz.ntmps48 J (fun E => ?_)
  refine Wz [51,41] ?_;refine zx (Qj J J (hc_Level) J) J ?_;refine Wz [6,85] ?_;refine zx (Qj J J (hc) J) J ?_;refine Wz [5,37] ?_
  exact Xi J J (Xt [] (by decide) J J (Xf (Gqa fun e=>e_Scores (by rw[e])).symm))
 have e_Scores:=Classical.not_not.1 e_Scores
 have hc_Scores:=eq_IntS x.Scores y.Scores g_Scores
 rw[Gqb e_Scores] at hc_Scores
 by_cases e_Bodies:¬x.Bodies=y.Bodies
 ·have hc:=eq_BodyS x.Bodies y.Bodies g_Bodies
  rw[Gqa e_Bodies] at hc
  refine Con.of Tryz.func48 J Tryz.ntmps48 J (fun E => ?_)
  refine Wz [51,41] ?_;refine zx (Qj J J (hc_Level) J) J ?_;refine Wz [6,85] ?_;refine zx (Qj J J (hc_Scores) J) J ?_;refine Wz [6] ?_;refine zx (Qj J J (hc) J) J ?_;refine Wz [5,37] ?_
  exact Xi J J (Xt [] (by decide) J J (Xf (Gqa fun e=>e_Bodies (by rw[e])).symm))
 have e_Bodies:=Classical.not_not.1 e_Bodies
 have hc_Bodies:=eq_BodyS x.Bodies y.Bodies g_Bodies
 rw[Gqb e_Bodies] at hc_Bodies
 refine Con.of Tryz.func48 J Tryz.ntmps48 J (fun E => ?_)
 refine Wz [51,41] ?_;refine zx (Qj J J (hc_Level) J) J ?_;refine Wz [6,85] ?_;refine zx (Qj J J (hc_Scores) J) J ?_;refine Wz [6] ?_;refine zx (Qj J J (hc_Bodies) J) J ?_;refine Wz [53,138] ?_
 exact Xi J J (Xt [] (by decide) J J (Xf (Gqb (TWorld.same e_Level e_Tick e_Seed e_Scores e_Bodies)).symm))
theorem eq_Spectator (x y:TSpectator) (hg:Enc.gd x):Con Tryz.prog 169 [] [ag x,ag y] [] (B (decide (x=y))):=by
 obtain⟨g_World,g_Gaps⟩:=hg
 by_cases e_World:¬x.World=y.World
 ·have hc:=eq_World x.World y.World g_World
  rw[Gqa e_World] at hc
  refine Con.of Tryz.func169 J Tryz.ntmps169 J (fun E => ?_)
  refine Wz [51,41] ?_;refine zx (Qj J J (hc) J) J ?_;refine Wz [5,37] ?_
  exact Xi J J (Xt [] (by decide) J J (Xf (Gqa fun e=>e_World (by rw[e])).symm))
 have e_World:=Classical.not_not.1 e_World
 have hc_World:=eq_World x.World y.World g_World
 rw[Gqb e_World] at hc_World
 by_cases e_Gaps:¬x.Gaps=y.Gaps
 ·have hk:decide (x.Gaps≠y.Gaps)=true:=by simp[e_Gaps]
  refine Con.of Tryz.func169 J Tryz.ntmps169 J (fun E => ?_)
  refine Wz [51,41] ?_;refine zx (Qj J J (hc_World) J) J ?_;refine Wz [6,18] ?_
  exact Xi J J (Xt [] (by decide) J J (Xf (Gqa fun e=>e_Gaps (by rw[e])).symm))
 have e_Gaps:=Classical.not_not.1 e_Gaps
 have k_Gaps:decide (x.Gaps≠y.Gaps)=false:=by simp[e_Gaps]
 refine Con.of Tryz.func169 J Tryz.ntmps169 J (fun E => ?_)
 refine Wz [51,41] ?_;refine zx (Qj J J (hc_World) J) J ?_;refine Wz [6,62,26,138] ?_
 exact Xi J J (Xt [] (by decide) J J (Xf (Gqb (TSpectator.same e_World e_Gaps)).symm))

/-! ### Marks -/
end
section
open Go.RowKit

def inR (n lo hi:Int):Bool:=decide (lo≤n)&&decide (n≤hi)
theorem Yk {n lo hi:Int}:inR n lo hi=true↔lo≤n∧n≤hi:=by simp[inR]
theorem Xk (n lo hi:Int):Con Tryz.prog 137 [] [ai n,ai lo,ai hi] [] (B (inR n lo hi)):=by
 refine Con.of Tryz.func137 J Tryz.ntmps137 J (fun E => ?_)
 refine Wz [33,10,190,0,160] ?_;refine zx (Qt.grdT J J J (.hit .stop) (fun hgrd=>Qa J J J)) J ?_;refine Wz [240,42,46] ?_
 exact Xi J J (Xt [] (by decide) J J J)
theorem Xs (n lo hi:Int):Con Tryz.prog 133 [] [ai n,ai lo,ai hi] [] (B (inR n lo hi)):=by
 refine Con.of Tryz.func133 J Tryz.ntmps133 J (fun E => ?_)
 refine Wz [33,10,190,0,160] ?_;refine zx (Qt.grdT J J J (.hit .stop) (fun hgrd=>Qa J J J)) J ?_;refine Wz [240,42,46] ?_
 exact Xi J J (Xt [] (by decide) J J J)

section
variable {α:Type} {p:α→Bool} {xs:List α} {k:Nat}
theorem Xz (h:(xs.take k).all p=true) (hk:k<xs.length) (hp:p xs[k]=true):(xs.take (k+1)).all p=true:=by
 rw[Gxm hk,List.all_append,h]
 simp[hp]
theorem all_no (hk:k<xs.length) (hp:p xs[k]=false):xs.all p=false:=by
 rw[List.all_eq_false]
 exact⟨_,Gqf hk,by simp[hp]⟩
theorem Xy (h:(xs.take k).all p=true) (hk:xs.length≤k):xs.all p=true:=by rwa[Gqk hk] at h
end
def inOk (xs:List Int):Bool:=xs.all fun n=>inR n 0 15
def rowOk (xs:List Int) (n:Int):Bool:=decide ((xs.length:Int)=n)&&inOk xs

theorem I_inputsOk (xs:List Int) (hn:Enc.gd xs):Con Tryz.prog 228 [] [al xs] [] (B (inOk xs)):=by
 have hn1:=hn.1
 have hlx:=X6 xs
 refine Con.of Tryz.func228 J Tryz.ntmps228 J (fun E => ?_)
 refine Wz [258,2,50] ?_;refine Xe (fun m st=>∃ k:Nat,k+m=xs.length∧((xs.take k).all (fun n=>inR n 0 15)=true)∧st=(⟨_,[(5,L xs),(6,I (els xs).length),(7,I k)],[]⟩:St)) (xs.length) ⟨_,⟨0,by omega,by simp,J⟩,Xv [] (by kernel_rfl)⟩ ?_
 rintro m_A _ ⟨k,hk_A,hp_A,rfl⟩
 refine Wz [7,12,16] ?_
 refine Q8 J (fun h => ?_) (fun h => ?_)
 ·have h3:k<xs.length:=by have:=Gqc h; omega
  have hat:=X5 h3
  refine Wz [9,7,84,3,4] ?_;refine zx (Qj J J (Xk xs[k] 0 15) J) J ?_;refine Wz [5,2] ?_
  refine Q8 J (fun h4 => ?_) (fun h4 => ?_)
  ·refine Wz [55,151] ?_
   refine Wz [47] ?_
   exact Xi J J (Xt [] (by decide) J J (Xf (all_no h3 (by simpa using h4)).symm))
  ·refine Wz [124,60,100,14,0,134] ?_
   refine Qz ?_
   exact⟨xs.length-(k+1),by omega,_,⟨k+1,by omega,Xz hp_A h3 (by simpa using h4),J⟩,Xv [] (by kernel_rfl)⟩
 ·have h3:¬((k:Int)<(els xs).length):=Gqg h
  refine Wz [94] ?_
  exact Xi J J (Xt [] (by decide) J J (Xf (Xy hp_A (by omega)).symm))
theorem I_rowOk (xs:List Int) (n:Int) (hn:Enc.gd xs):Con Tryz.prog 196 [] [al xs,ai n] [] (B (rowOk xs n)):=by
 have hlx:=X6 xs
 refine Con.of Tryz.func196 J Tryz.ntmps196 J (fun E => ?_)
 refine Wz [33,4,104,167,0,160] ?_;refine zx (Qt.grdT J J J (.hit .stop) (fun hgrd=>Qj J J (I_inputsOk xs hn) J)) J ?_;refine Wz [42,46] ?_
 exact Xi J J (Xt [] (by decide) J J (Xf (by rw[hlx]; rfl)))
theorem S_rowOk (xs:List Int) (n:Int) (hn:Enc.gd xs):Con Tryz.prog 183 [] [al xs,ai n] [] (B (rowOk xs n)):=by
 have hn1:=hn.1
 have hlx:=X6 xs
 refine Con.of Tryz.func183 J Tryz.ntmps183 J (fun E => ?_)
 refine Wz [69] ?_;refine Xe (fun m st=>∃ k:Nat,k+m=xs.length∧((xs.take k).all (fun n=>inR n 0 15)=true)∧st=(⟨_,[(0,L xs),(1,I n),(5,I k)],[]⟩:St)) (xs.length) ⟨_,⟨0,by omega,by simp,J⟩,Xv [] (by kernel_rfl)⟩ ?_
 rintro m_A _ ⟨k,hk_A,hp_A,rfl⟩
 refine Wz [23,12] ?_
 refine Q8 J (fun h => ?_) (fun h => ?_)
 ·have h3:k<xs.length:=by have:=Gqc h; omega
  have hat:=X5 h3
  refine Wz [9,10,84] ?_;refine zx (Qj J J (Xs xs[k] 0 15) J) J ?_;refine Wz [5,2] ?_
  refine Q8 J (fun h4 => ?_) (fun h4 => ?_)
  ·refine Wz [55,151] ?_
   refine Wz [47] ?_
   exact Xi J J (Xt [] (by decide) J J (Xf (by unfold rowOk inOk; rw[all_no h3 (by simpa using h4)]; simp)))
  ·refine Wz [124,241,14] ?_
   refine Wz [3] ?_
   exact⟨xs.length-(k+1),by omega,_,⟨k+1,by omega,Xz hp_A h3 (by simpa using h4),J⟩,Xv [] (by kernel_rfl)⟩
 ·have h3:¬((k:Int)<(els xs).length):=Gqg h
  refine Wz [68,4,104,167,46] ?_
  exact Xi J J (Xt [] (by decide) J J (Xf (by unfold rowOk inOk; rw[Xy hp_A (by omega),hlx]; simp)))
end
section
open Go.RowKit

abbrev Seen:=Bool×Bool×Bool×Bool
def tileM (e:Bool) (t:Int) (s:Seen×Bool):Option (Seen×Bool) :=
 if t=35 then some s else if e then none else
 if t=49 then (if s.1.1 then none else some ((true,s.1.2),true)) else
 if t=50 then (if s.1.2.1 then none else some ((s.1.1,true,s.1.2.2),true)) else
 if t=51 then (if s.1.2.2.1 then none else some ((s.1.1,s.1.2.1,true,s.1.2.2.2),true)) else
 if t=52 then (if s.1.2.2.2 then none else some ((s.1.1,s.1.2.1,s.1.2.2.1,true),true)) else
 if t=111∨t=46 then some (s.1,true) else none
def colsM (row:ByteArray) (er:Bool) (w:Nat) (s:Seen×Bool):Nat→Option (Seen×Bool)
 |0=>some s
 |c+1=>match colsM row er w s c with
  |none=>none
  |some s'=>tileM (er || decide (c=0) || decide (c+1=w)) (byteAt row c) s'
def rowsM (rows:List ByteArray) (w:Nat):Nat→Option (Seen×Bool)
 |0=>some ((false,false,false,false),false)
 | r+1=>match rowsM rows w r with
  |none=>none
  |some s=>match rows[r]? with
   |none=>none
   |some row=>if row.size=w then colsM row (decide (r=0) || decide (r+1=rows.length)) w s w else none
def widthM (rows:List ByteArray):Nat:=match rows[0]? with
 |some row=>row.size
 |none=>0
def levelOk (l:TLevel):Bool:=decide (3≤l.Rows.length)&&decide (l.Rows.length≤12)&&decide (4≤widthM l.Rows)&&decide (widthM l.Rows≤20)&&match rowsM l.Rows (widthM l.Rows) l.Rows.length with
 |some s=>s.2
 |none=>false

@[reducible] def vb (b:Bool):V1 := .rd [] (.v (.bool b))
section
variable {rows:List ByteArray} {row:ByteArray} {w k c:Nat} {s s':Seen×Bool} {er:Bool}
theorem rows_none {n:Nat} (h:rowsM rows w k=none) (hk:k≤n):rowsM rows w n=none:=by
 induction n with
 | zero => have:k=0:=by omega
           subst this; exact h
 | succ n ih =>
  rcases Gqq n k with h1 | h1
  ·have:k=n+1:=by omega
   subst this; exact h
  ·simp[rowsM,ih h1]
theorem cols_none {n:Nat} (h:colsM row er w s c=none) (hc:c≤n):colsM row er w s n=none:=by
 induction n with
 | zero => have:c=0:=by omega
           subst this; exact h
 | succ n ih =>
  rcases Gqq n c with h1 | h1
  ·have:c=n+1:=by omega
   subst this; exact h
  ·simp[colsM,ih h1]
theorem rows_next (h:rowsM rows w k=some s) (hk:k<rows.length) (hw:rows[k].size=w):rowsM rows w (k+1)=colsM rows[k] (decide (k=0) || decide (k+1=rows.length)) w s w:=by
 rw[rowsM,h]
 simp[Gqe hk,hw]
theorem rows_bad (hk:k<rows.length) (hw:rows[k].size≠w):rowsM rows w (k+1)=none:=by
 rw[rowsM]
 cases rowsM rows w k with
 |none=>rfl
 |some s=>simp[Gqe hk,hw]
theorem cols_next (h:colsM row er w s c=some s'):colsM row er w s (c+1)=tileM (er || decide (c=0) || decide (c+1=w)) (byteAt row c) s':=by
 rw[colsM,h]
theorem level_no {l:TLevel} (hk:k<l.Rows.length) (hw:widthM l.Rows=w) (h:rowsM l.Rows w (k+1)=none):levelOk l=false:=by
 unfold levelOk
 rw[hw,rows_none h (by omega)]
 simp
theorem width_at (h:0<rows.length):widthM rows=rows[0].size:=by simp[widthM,Gqe h]
end
end
section
open Go.RowKit

theorem Xj (x:TLevel) (hg:Enc.gd x):Con Tryz.prog 163 [] [ag x] [] (B (levelOk x)):=by
 obtain⟨rows⟩:=x
 have hn:Enc.gd rows:=hg
 have hn1:=hn.1
 have hlx:=X6 rows
 refine Con.of Tryz.func163 J Tryz.ntmps163 J (fun E => ?_)
 refine Wz [58,27,21,152,80,130,222,25] ?_
 refine Q8 J (fun h => ?_) (fun h => ?_)
 ·simp only[Gqo,decide_eq_true_eq] at h
  refine Wz [35] ?_
  exact Xi J J (Xt [] (by decide) J J (Xf (by simp[levelOk]; omega)))
 simp only[Gql,decide_eq_false_iff_not] at h
 have h0:0<rows.length:=by omega
 have hat0:(els rows)[(0:Int).toNat]? = some (Enc.e rows[0]):=X5 h0
 have hw:=width_at h0
 refine Wz [11,24,84,136,98,152,0,70,191,25] ?_
 refine Q8 J (fun h1 => ?_) (fun h1 => ?_)
 ·simp only[Gqo,decide_eq_true_eq] at h1
  refine Wz [35] ?_
  exact Xi J J (Xt [] (by decide) J J (Xf (by simp[levelOk]; omega)))
 simp only[Gql,decide_eq_false_iff_not] at h1
 obtain⟨w,hw'⟩:∃ w,w=rows[0].size:=⟨_,rfl⟩
 rw[←hw'] at hw h1
 refine Wz [11,7,22,2,33,27,104,2,50] ?_;refine Xe (fun m st=>∃ (k:Nat) (s:Seen×Bool),k+m=rows.length∧(rowsM rows w k=some s)∧st=(⟨_,[(1,.o (.c (.ptr 0 0))),(3,I w),(4,.o (.c (.ptr 1 0))),(5,B s.2),(33,L rows),(34,I (els rows).length),(35,I k)],[.box [.rd [] (sl rows)],.box [vb false,vb s.1.1,vb s.1.2.1,vb s.1.2.2.1,vb s.1.2.2.2]]⟩:St)) (rows.length) ⟨(fun (k:Nat) (s:Seen×Bool)=>(⟨_,[(1,.o (.c (.ptr 0 0))),(3,I w),(4,.o (.c (.ptr 1 0))),(5,B s.2),(33,L rows),(34,I (els rows).length),(35,I k)],[.box [.rd [] (sl rows)],.box [vb false,vb s.1.1,vb s.1.2.1,vb s.1.2.2.1,vb s.1.2.2.2]]⟩:St)) 0 (((false,false,false,false),false)),⟨0,((false,false,false,false),false),by omega,J,J⟩,Xw [0,1] (by decide) J (by kernel_rfl) (.c J (.cons (Xl (by omega)) (.c J (.c J (.c J (.c J (.c J (.nil))))))))⟩ ?_
 rintro m_A _ ⟨k,s,hk_A,hp_A,rfl⟩
 refine Wz [7,12,16] ?_
 refine Q8 J (fun h => ?_) (fun h => ?_)
 ·have h3:k<rows.length:=by have:=Gqc h; omega
  have hat:=X5 h3
  have hgk:rows[k].size≤9223372036854775807:=hn.2 _ (Gqf h3)
  refine Wz [9,4,84,96,98,136,0,139,2] ?_
  refine Q8 J (fun h4 => ?_) (fun h4 => ?_)
  ·have h4:¬rows[k].size=w:=by have:=Gqc h4; omega
   refine Wz [55,63,118,47] ?_
   exact Xi J J (Xt [] (by decide) J J (Xf (level_no (l:=⟨rows⟩) h3 hw (rows_bad h3 h4)).symm))
  have h4:rows[k].size=w:=by have:=Gqg h4; omega
  have hrn:=rows_next hp_A h3 h4
  obtain⟨er,her⟩:∃ er,er=(decide (k=0) || decide (k+1=rows.length)):=⟨_,rfl⟩
  rw[←her] at hrn
  refine Wz [11,33,50] ?_;refine Xe (fun m st=>∃ (c:Nat) (u:Seen×Bool),c+m=w∧(colsM rows[k] er w s c=some u)∧st=(⟨_,[(1,.o (.c (.ptr 0 0))),(3,I w),(4,.o (.c (.ptr 1 0))),(5,B u.2),(6,I k),(7,S rows[k]),(8,I c),(33,L rows),(34,I (els rows).length),(35,I k)],[.box [.rd [] (sl rows)],.box [vb false,vb u.1.1,vb u.1.2.1,vb u.1.2.2.1,vb u.1.2.2.2]]⟩:St)) (w) ⟨_,⟨0,s,by omega,J,J⟩,Xv [0,1] (by kernel_rfl)⟩ ?_
  rintro m_D _ ⟨c,u,hk_D,hp_D,rfl⟩
  refine Wz [28,12] ?_
  refine Q8 J (fun h5 => ?_) (fun h5 => ?_)
  ·have h5:c<w:=by have:=Gqc h5; omega
   have hcn:=cols_next hp_D
   obtain⟨t,ht⟩:∃ t,byteAt rows[k] (c:Int).toNat=t:=⟨_,rfl⟩
   rw[show byteAt rows[k] c=t from ht] at hcn
   have htb:0≤t∧t≤255:=ht▸X4 _ _
   obtain⟨⟨sa,sb,sc,sd⟩,so⟩:=u
   obtain⟨e,he⟩:∃ e,e=(er || decide (c=0) || decide (c+1=w)):=⟨_,rfl⟩
   rw[←he] at hcn
   refine Wz [9,10,192,3,4,167,0,70,163,193,199] ?_;refine zx (Qt.grdF J J J (.hit (.hit (.hit (.hit .stop)))) (fun hgrd=>Q9 J J J J (by omega))) J ?_;refine zx (Qt.grdF J J J (.hit (.hit (.hit (.hit (.hit .stop))))) (fun hgrd=>Za J J J J)) J ?_;refine Wz [76,0,70] ?_;refine zx (Qt.grdF J J J (.hit .stop) (fun hgrd=>Za J J J J)) J ?_;refine Wz [76,0,70,223] ?_;refine zx (Qt.grdF J J J (.hit (.hit .stop)) (fun hgrd=>Q9 J J J J (by omega))) J ?_;refine zx (Qt.grdF J J J (.hit (.hit (.hit .stop))) (fun hgrd=>Za J J J J)) J ?_;refine Wz [76,3,28,160,224,42,2] ?_
   have hee:(decide ((k:Int)=0) || decide ((k:Int)=((els rows).length:Int)-1) || decide ((c:Int)=0) || decide ((c:Int)=(w:Int)-1))=e:=by
    rw[he,her,hlx]
    have g1:decide ((k:Int)=0)=decide (k=0):=by simp
    have g2:decide ((k:Int)=(rows.length:Int)-1)=decide (k+1=rows.length):=decide_eq_decide.2 (by omega)
    have g3:decide ((c:Int)=0)=decide (c=0):=by simp
    have g4:decide ((c:Int)=(w:Int)-1)=decide (c+1=w):=decide_eq_decide.2 (by omega)
    rw[g1,g2,g3,g4]
   clear he her
   have hbad:colsM rows[k] er w s (c+1)=none→levelOk ⟨rows⟩=false:=fun hc=>level_no (l:=⟨rows⟩) h3 hw (hrn.trans (cols_none hc (by omega)))
   refine Q8 J (fun h6 => ?_) (fun h6 => ?_)
   ·rw[hee] at h6
    simp only[Gqj,decide_eq_true_eq] at h6
    refine Wz [55,63,118,88] ?_
    exact Xi J J (Xt [] (by decide) J J (Xf (hbad (hcn.trans (by simp[tileM,h6]))).symm))
   rw[hee] at h6
   have h7:t=35∨e=false:=by
    simp only[Gxi,decide_eq_false_iff_not,Classical.not_not] at h6
    exact h6.symm
   clear h6 hee
   refine AWP.pre (st':=(⟨_,[(1,.o (.c (.ptr 0 0))),(3,I w),(4,.o (.c (.ptr 1 0))),(5,B so),(6,I k),(7,S rows[k]),(8,I c),(9,VI .u8 t),(33,L rows),(34,I (els rows).length),(35,I k)],[.box [.rd [] (sl rows)],.box [vb false,vb sa,vb sb,vb sc,vb sd]]⟩:St)) ?_ (Xv [0,1] (by kernel_rfl))
   rcases h7 with rfl | h7
   ·refine Wz [9,4] ?_
    refine zx (Ze (b:=false) J J J J (by decide)) J ?_;refine Wz [65,15,86,4] ?_;refine zx (Qw (b:=false) J J J J (by decide)) J ?_;refine Wz [65,15,65,15,86,124,60,4] ?_;refine zx (Qw (b:=false) J J J J (by decide)) J ?_;refine Wz [57] ?_
    exact⟨w-(c+1),by omega,_,⟨c+1,((sa,sb,sc,sd),so),by omega,hcn.trans (by simp[tileM]),J⟩,Xv [0,1] (by kernel_rfl)⟩
   subst h7
   rcases (by omega:t=35∨t=49∨t=50∨t=51∨t=52∨t=111∨t=46∨(t≠35∧t≠49∧t≠50∧t≠51∧t≠52∧t≠111∧t≠46)) with rfl | rfl | rfl | rfl | rfl | rfl | rfl | ht7
   ·refine Wz [9,4] ?_
    refine zx (Ze (b:=false) J J J J (by decide)) J ?_;refine Wz [65,15,86,4] ?_;refine zx (Qw (b:=false) J J J J (by decide)) J ?_;refine Wz [65,15,65,15,86,124,60,4] ?_;refine zx (Qw (b:=false) J J J J (by decide)) J ?_;refine Wz [57] ?_
    exact⟨w-(c+1),by omega,_,⟨c+1,((sa,sb,sc,sd),so),by omega,hcn.trans (by simp[tileM]),J⟩,Xv [0,1] (by kernel_rfl)⟩
   ·refine Wz [9,4] ?_
    refine zx (Ze (b:=true) J J J J (by decide)) J ?_;refine Wz [20] ?_;refine zx (Zk (b:=true) J J J J (by decide)) J ?_;refine Wz [29,3,132,111,140,175,108,2] ?_
    refine Q8 J (fun h8 => ?_) (fun h8 => ?_)
    ·have h8:sa=true:=h8
     subst h8
     refine Wz [55,63,63,118,88] ?_
     exact Xi J J (Xt [] (by decide) J J (Xf (hbad (hcn.trans (by simp[tileM]))).symm))
    ·have h8:sa=false:=h8
     subst h8
     refine Wz [11,75,140,175,176,134,60,4] ?_;refine zx (Qw (b:=true) J J J J (by decide)) J ?_;refine Wz [101,100,56] ?_
     exact⟨w-(c+1),by omega,_,⟨c+1,((true,sb,sc,sd),true),by omega,hcn.trans (by simp[tileM]),J⟩,Xv [0,1] (by kernel_rfl)⟩
   ·refine Wz [9,4] ?_
    refine zx (Ze (b:=true) J J J J (by decide)) J ?_;refine Wz [20] ?_;refine zx (Zk (b:=true) J J J J (by decide)) J ?_;refine Wz [29,3,132,111,140,175,108,2] ?_
    refine Q8 J (fun h8 => ?_) (fun h8 => ?_)
    ·have h8:sb=true:=h8
     subst h8
     refine Wz [55,63,63,118,88] ?_
     exact Xi J J (Xt [] (by decide) J J (Xf (hbad (hcn.trans (by simp[tileM]))).symm))
    ·have h8:sb=false:=h8
     subst h8
     refine Wz [11,75,140,175,176,134,60,4] ?_;refine zx (Qw (b:=true) J J J J (by decide)) J ?_;refine Wz [101,100,56] ?_
     exact⟨w-(c+1),by omega,_,⟨c+1,((sa,true,sc,sd),true),by omega,hcn.trans (by simp[tileM]),J⟩,Xv [0,1] (by kernel_rfl)⟩
   ·refine Wz [9,4] ?_
    refine zx (Ze (b:=true) J J J J (by decide)) J ?_;refine Wz [20] ?_;refine zx (Zk (b:=true) J J J J (by decide)) J ?_;refine Wz [29,3,132,111,140,175,108,2] ?_
    refine Q8 J (fun h8 => ?_) (fun h8 => ?_)
    ·have h8:sc=true:=h8
     subst h8
     refine Wz [55,63,63,118,88] ?_
     exact Xi J J (Xt [] (by decide) J J (Xf (hbad (hcn.trans (by simp[tileM]))).symm))
    ·have h8:sc=false:=h8
     subst h8
     refine Wz [11,75,140,175,176,134,60,4] ?_;refine zx (Qw (b:=true) J J J J (by decide)) J ?_;refine Wz [101,100,56] ?_
     exact⟨w-(c+1),by omega,_,⟨c+1,((sa,sb,true,sd),true),by omega,hcn.trans (by simp[tileM]),J⟩,Xv [0,1] (by kernel_rfl)⟩
   ·refine Wz [9,4] ?_
    refine zx (Ze (b:=true) J J J J (by decide)) J ?_;refine Wz [20] ?_;refine zx (Zk (b:=true) J J J J (by decide)) J ?_;refine Wz [29,3,132,111,140,175,108,2] ?_
    refine Q8 J (fun h8 => ?_) (fun h8 => ?_)
    ·have h8:sd=true:=h8
     subst h8
     refine Wz [55,63,63,118,88] ?_
     exact Xi J J (Xt [] (by decide) J J (Xf (hbad (hcn.trans (by simp[tileM]))).symm))
    ·have h8:sd=false:=h8
     subst h8
     refine Wz [11,75,140,175,176,134,60,4] ?_;refine zx (Qw (b:=true) J J J J (by decide)) J ?_;refine Wz [101,100,56] ?_
     exact⟨w-(c+1),by omega,_,⟨c+1,((sa,sb,sc,true),true),by omega,hcn.trans (by simp[tileM]),J⟩,Xv [0,1] (by kernel_rfl)⟩
   ·refine Wz [9,4] ?_
    refine zx (Ze (b:=true) J J J J (by decide)) J ?_;refine Wz [20] ?_;refine zx (Zk (b:=false) J J J J (by decide)) J ?_;refine Wz [29,86,4] ?_;refine zx (Qw (b:=true) J J J J (by decide)) J ?_;refine Wz [20] ?_;refine zx (Qw (b:=false) J J J J (by decide)) J ?_;refine Wz [29,65,15,86,124,60,4] ?_;refine zx (Qw (b:=true) J J J J (by decide)) J ?_;refine Wz [101,100,56] ?_
    exact⟨w-(c+1),by omega,_,⟨c+1,((sa,sb,sc,sd),true),by omega,hcn.trans (by simp[tileM]),J⟩,Xv [0,1] (by kernel_rfl)⟩
   ·refine Wz [9,4] ?_
    refine zx (Ze (b:=false) J J J J (by decide)) J ?_;refine Wz [65,15,86,4] ?_;refine zx (Qw (b:=true) J J J J (by decide)) J ?_;refine Wz [20] ?_;refine zx (Qw (b:=true) J J J J (by decide)) J ?_;refine Wz [29,20] ?_;refine zx (Qw (b:=false) J J J J (by decide)) J ?_;refine Wz [29,86,124,60,4] ?_;refine zx (Qw (b:=true) J J J J (by decide)) J ?_;refine Wz [101,100,56] ?_
    exact⟨w-(c+1),by omega,_,⟨c+1,((sa,sb,sc,sd),true),by omega,hcn.trans (by simp[tileM]),J⟩,Xv [0,1] (by kernel_rfl)⟩
   ·refine Wz [9,4,190] ?_
    refine Wz [0,160] ?_;refine zx (Qt.grdT J J J (.hit .stop) (fun hgrd=>q_leq J J J J)) J ?_;refine Wz [42,3] ?_
    refine Q8 J (fun h8 => ?_) (fun h8 => ?_)
    ·simp only[Gqj,decide_eq_true_eq] at h8
     omega
    refine Wz [4,139,0,160,224,42,0,160,224,42,3] ?_
    refine Q8 J (fun h9 => ?_) (fun h9 => ?_)
    ·refine Wz [55,153,63,177] ?_
     refine Wz [63,88] ?_
     exact Xi J J (Xt [] (by decide) J J (Xf (hbad (hcn.trans (by simp[tileM,ht7]))).symm))
    ·simp only[Gxi,decide_eq_false_iff_not,Classical.not_not] at h9
     omega
  ·have h5:c=w:=by have:=Gqg h5; omega
   rw[h5] at hp_D
   rw[hp_D] at hrn
   refine Wz [178,60,100,14,0,2] ?_
   exact⟨rows.length-(k+1),by omega,_,⟨k+1,u,by omega,hrn,J⟩,Xv [0,1] (by kernel_rfl)⟩
 ·have h3:¬((k:Int)<(els rows).length):=Gqg h
  have hk:k=rows.length:=by omega
  subst hk
  refine Wz [43] ?_
  exact Xi J J (Xt [] (by decide) J J (Xf (by
   unfold levelOk
   rw[hw,hp_A]
   have:3≤rows.length∧rows.length≤12∧4≤w∧w≤20:=by omega
   simp[this])))
end
section
open Go.RowKit

theorem S_LevelOk (x:TLevel) (hg:Enc.gd x):Con Tryz.prog 154 [] [ag x] [] (B (levelOk x)):=by
 obtain⟨rows⟩:=x
 have hn:Enc.gd rows:=hg
 have hn1:=hn.1
 have hlx:=X6 rows
 refine Con.of Tryz.func154 J Tryz.ntmps154 J (fun E => ?_)
 refine Wz [58,27,21] ?_;refine zx (Qj J J (Xs (els rows).length 3 12) J) J ?_;refine Wz [5,2] ?_
 refine Q8 J (fun h => ?_) (fun h => ?_)
 ·refine Wz [35] ?_
  exact Xi J J (Xt [] (by decide) J J (Xf (by simp[inR] at h; simp[levelOk]; omega)))
 have h:3≤rows.length∧rows.length≤12:=by simp[inR] at h; omega
 have h0:0<rows.length:=by omega
 have hat0:(els rows)[(0:Int).toNat]? = some (Enc.e rows[0]):=X5 h0
 have hw:=width_at h0
 obtain⟨w,hw'⟩:∃ w,w=rows[0].size:=⟨_,rfl⟩
 rw[←hw'] at hw
 have hg0:rows[0].size≤9223372036854775807:=hn.2 _ (Gqf h0)
 refine Wz [11,24,84,136,3,33,7,107,3,39] ?_;refine Xe (fun m st=>∃ (k:Nat) (s:Seen×Bool),k+m=rows.length∧(rowsM rows w k=some s∧(0<k→4≤w∧w≤20))∧st=(⟨_,[(1,.o (.c (.ptr 0 0))),(3,I w),(4,B s.2),(5,.o (.c (.sb 1 4 1))),(6,I k)],[.box [.rd [] (sl rows)],.box [vb s.1.1,vb s.1.2.1,vb s.1.2.2.1,vb s.1.2.2.2]]⟩:St)) (rows.length) ⟨(fun (k:Nat) (s:Seen×Bool)=>(⟨_,[(1,.o (.c (.ptr 0 0))),(3,I w),(4,B s.2),(5,.o (.c (.sb 1 4 1))),(6,I k)],[.box [.rd [] (sl rows)],.box [vb s.1.1,vb s.1.2.1,vb s.1.2.2.1,vb s.1.2.2.2]]⟩:St)) 0 (((false,false,false,false),false)),⟨0,((false,false,false,false),false),by omega,⟨J,by omega⟩,J⟩,Xw [0,1] (by decide) J (by kernel_rfl) (.c J (.cons (Xl (by omega)) (.c J (.c J (.c J (.nil))))))⟩ ?_
 rintro m_A _ ⟨k,s,hk_A,hp_A,rfl⟩
 refine Wz [111,13,21,12] ?_
 refine Q8 J (fun h => ?_) (fun h => ?_)
 ·have h3:k<rows.length:=by have:=Gqc h; omega
  have hat:=X5 h3
  have hwc:((rows[0].size:Nat):Int)=w:=by omega
  have hgk:rows[k].size≤9223372036854775807:=hn.2 _ (Gqf h3)
  refine Wz [9,27,0,84,136,0,139,0,70] ?_;refine zx (Qt.grdF J J J (.hit .stop) (fun hgrd=>Qj J J (Xs w 4 20) J)) J ?_;refine Wz [154,25] ?_
  refine Q8 J (fun h4 => ?_) (fun h4 => ?_)
  ·simp only[Gqo,decide_eq_true_eq,Gxd,inR,Gxi,decide_eq_false_iff_not] at h4
   refine Wz [55,63,118,47] ?_
   refine Xi J J (Xt [] (by decide) J J (Xf ?_))
   by_cases h4':rows[k].size=w
   ·have:¬(4≤w∧w≤20):=by omega
    simp only[levelOk,hw]
    rcases Gqq w 4 with h9 | h9
    ·simp[show ¬4≤w by omega]
    ·simp[show ¬w≤20 by omega]
   ·exact (level_no (l:=⟨rows⟩) h3 hw (rows_bad h3 h4')).symm
  simp only[Gql,decide_eq_false_iff_not,Gqv,inR,Gqj,decide_eq_true_eq] at h4
  have h1:4≤w∧w≤20:=by omega
  have h4:rows[k].size=w:=by omega
  have hrn:=rows_next hp_A.1 h3 h4
  obtain⟨er,her⟩:∃ er,er=(decide (k=0) || decide (k+1=rows.length)):=⟨_,rfl⟩
  rw[←her] at hrn
  refine Wz [11,33,50] ?_;refine Xe (fun m st=>∃ (c:Nat) (u:Seen×Bool),c+m=w∧(colsM rows[k] er w s c=some u)∧st=(⟨_,[(1,.o (.c (.ptr 0 0))),(3,I w),(4,B u.2),(5,.o (.c (.sb 1 4 1))),(6,I k),(7,I c)],[.box [.rd [] (sl rows)],.box [vb u.1.1,vb u.1.2.1,vb u.1.2.2.1,vb u.1.2.2.2]]⟩:St)) (w) ⟨_,⟨0,s,by omega,J,J⟩,Xv [0,1] (by kernel_rfl)⟩ ?_
  rintro m_D _ ⟨c,u,hk_D,hp_D,rfl⟩
  refine Wz [28,12] ?_
  refine Q8 J (fun h5 => ?_) (fun h5 => ?_)
  ·have h5:c<w:=by have:=Gqc h5; omega
   have hcn:=cols_next hp_D
   obtain⟨t,ht⟩:∃ t,byteAt rows[k] (c:Int).toNat=t:=⟨_,rfl⟩
   rw[show byteAt rows[k] c=t from ht] at hcn
   have htb:0≤t∧t≤255:=ht▸X4 _ _
   obtain⟨⟨sa,sb,sc,sd⟩,so⟩:=u
   obtain⟨e,he⟩:∃ e,e=(er || decide (c=0) || decide (c+1=w)):=⟨_,rfl⟩
   rw[←he] at hcn
   refine Wz [9,36,128,91,192,3,4,167,0,70] ?_;refine zx (Qt.grdF J J J (.hit .stop) (fun hgrd=>Za J J J J)) J ?_;refine Wz [76,0,70,163,193,199] ?_;refine zx (Qt.grdF J J J (.hit (.hit (.hit (.hit .stop)))) (fun hgrd=>Q9 J J J J (by omega))) J ?_;refine zx (Qt.grdF J J J (.hit (.hit (.hit (.hit (.hit .stop))))) (fun hgrd=>Za J J J J)) J ?_;refine Wz [76,0,70,223] ?_;refine zx (Qt.grdF J J J (.hit (.hit .stop)) (fun hgrd=>Q9 J J J J (by omega))) J ?_;refine zx (Qt.grdF J J J (.hit (.hit (.hit .stop))) (fun hgrd=>Za J J J J)) J ?_;refine Wz [76,3,16,50,4,167,3] ?_
   have hee:(decide ((k:Int)=0) || decide ((c:Int)=0) || decide ((k:Int)=((els rows).length:Int)-1) || decide ((c:Int)=(w:Int)-1))=e:=by
    rw[he,her,hlx]
    have g1:decide ((k:Int)=0)=decide (k=0):=by simp
    have g2:decide ((k:Int)=(rows.length:Int)-1)=decide (k+1=rows.length):=decide_eq_decide.2 (by omega)
    have g3:decide ((c:Int)=0)=decide (c=0):=by simp
    have g4:decide ((c:Int)=(w:Int)-1)=decide (c+1=w):=decide_eq_decide.2 (by omega)
    rw[g1,g2,g3,g4]
    cases decide (k=0) <;> cases decide (c=0) <;> cases decide (k+1=rows.length) <;> rfl
   clear he her
   have hbad:colsM rows[k] er w s (c+1)=none→levelOk ⟨rows⟩=false:=fun hc=>level_no (l:=⟨rows⟩) h3 hw (hrn.trans (cols_none hc (by omega)))
   refine AWP.pre (st':=(⟨_,[(1,.o (.c (.ptr 0 0))),(3,I w),(4,B so),(5,.o (.c (.sb 1 4 1))),(6,I k),(7,I c),(8,VI .u8 t),(9,B e),(73,B (decide (t=35)))],[.box [.rd [] (sl rows)],.box [vb sa,vb sb,vb sc,vb sd]]⟩:St)) ?_ (Xw [0,1] (by decide) J (by kernel_rfl) (.c J (.c J (.c J (.c J (.c J (.c J (.c J (.cons (Xf hee) (.c J (.nil)))))))))))
   by_cases h7:t=35
   ·subst h7
    refine Wz [132,124,60,92,70] ?_;refine zx (Qt.grdF J J J (.hit .stop) (fun hgrd=>Qw (b:=false) J J J J (by decide))) J ?_;refine Wz [76,56] ?_
    exact⟨w-(c+1),by omega,(fun (c:Nat) (u:Seen×Bool)=>(⟨_,[(1,.o (.c (.ptr 0 0))),(3,I w),(4,B u.2),(5,.o (.c (.sb 1 4 1))),(6,I k),(7,I c)],[.box [.rd [] (sl rows)],.box [vb u.1.1,vb u.1.2.1,vb u.1.2.2.1,vb u.1.2.2.2]]⟩:St)) (c+1) (((sa,sb,sc,sd),so)),⟨c+1,((sa,sb,sc,sd),so),by omega,hcn.trans (by simp[tileM]),J⟩,Xw [0,1] (by decide) J (by kernel_rfl) (.c J (.c J (.cons (Xf (by simp)) (.c J (.c J (.c J (.nil)))))))⟩
   cases e
   case true =>
    have f1:decide (t=35)=false:=Gqa h7
    refine Q8 J (fun h=>absurd (Gqc h) h7) (fun _ => ?_)
    refine Wz [10,119,125,81,81,119,81,81,81,81,81,81,125,29,3,132,55,153,63,118,88] ?_
    exact Xi J J (Xt [] (by decide) J J (Xf (hbad (hcn.trans (by simp[tileM,h7]))).symm))
   refine Q8 J (fun h=>absurd (Gqc h) h7) (fun _ => ?_)
   rcases (by omega:t=49∨t=50∨t=51∨t=52∨t=111∨t=46∨(t≠35∧t≠49∧t≠50∧t≠51∧t≠52∧t≠111∧t≠46)) with rfl | rfl | rfl | rfl | rfl | rfl | ht7
   ·refine Wz [10,1] ?_
    refine Wz [44] ?_;refine zx (Qw (b:=true) J J J J (by decide)) J ?_;refine Wz [1,20] ?_;refine zx (Qw (b:=true) J J J J (by decide)) J ?_;refine Wz [1,29,1,20,67,1,20,179,1,15,1,29,15,86,4] ?_;refine zx (Ze (b:=true) J J J J (by decide)) J ?_;refine Wz [20] ?_;refine zx (Zk (b:=true) J J J J (by decide)) J ?_;refine Wz [29,3,132,28,140,180,108,2] ?_
    refine Q8 J (fun h8 => ?_) (fun h8 => ?_)
    ·have h8:sa=true:=h8
     subst h8
     refine Wz [55,63,63,118,88] ?_
     exact Xi J J (Xt [] (by decide) J J (Xf (hbad (hcn.trans (by simp[tileM]))).symm))
    ·have h8:sa=false:=h8
     subst h8
     refine Wz [11,92,140,180,176,134,60,92,70] ?_;refine zx (Qt.grdF J J J (.hit .stop) (fun hgrd=>Qw (b:=true) J J J J (by decide))) J ?_;refine Wz [76,56] ?_
     exact⟨w-(c+1),by omega,(fun (c:Nat) (u:Seen×Bool)=>(⟨_,[(1,.o (.c (.ptr 0 0))),(3,I w),(4,B u.2),(5,.o (.c (.sb 1 4 1))),(6,I k),(7,I c)],[.box [.rd [] (sl rows)],.box [vb u.1.1,vb u.1.2.1,vb u.1.2.2.1,vb u.1.2.2.2]]⟩:St)) (c+1) (((true,sb,sc,sd),true)),⟨c+1,((true,sb,sc,sd),true),by omega,hcn.trans (by simp[tileM]),J⟩,Xw [0,1] (by decide) J (by kernel_rfl) (.c J (.c J (.cons (Xf (by simp)) (.c J (.c J (.c J (.nil)))))))⟩
   ·refine Wz [10,1] ?_
    refine Wz [44] ?_;refine zx (Qw (b:=true) J J J J (by decide)) J ?_;refine Wz [1,20] ?_;refine zx (Qw (b:=true) J J J J (by decide)) J ?_;refine Wz [1,29,1,20,67,1,20,179,1,15,1,29,15,86,4] ?_;refine zx (Ze (b:=true) J J J J (by decide)) J ?_;refine Wz [20] ?_;refine zx (Zk (b:=true) J J J J (by decide)) J ?_;refine Wz [29,3,132,28,140,180,108,2] ?_
    refine Q8 J (fun h8 => ?_) (fun h8 => ?_)
    ·have h8:sb=true:=h8
     subst h8
     refine Wz [55,63,63,118,88] ?_
     exact Xi J J (Xt [] (by decide) J J (Xf (hbad (hcn.trans (by simp[tileM]))).symm))
    ·have h8:sb=false:=h8
     subst h8
     refine Wz [11,92,140,180,176,134,60,92,70] ?_;refine zx (Qt.grdF J J J (.hit .stop) (fun hgrd=>Qw (b:=true) J J J J (by decide))) J ?_;refine Wz [76,56] ?_
     exact⟨w-(c+1),by omega,(fun (c:Nat) (u:Seen×Bool)=>(⟨_,[(1,.o (.c (.ptr 0 0))),(3,I w),(4,B u.2),(5,.o (.c (.sb 1 4 1))),(6,I k),(7,I c)],[.box [.rd [] (sl rows)],.box [vb u.1.1,vb u.1.2.1,vb u.1.2.2.1,vb u.1.2.2.2]]⟩:St)) (c+1) (((sa,true,sc,sd),true)),⟨c+1,((sa,true,sc,sd),true),by omega,hcn.trans (by simp[tileM]),J⟩,Xw [0,1] (by decide) J (by kernel_rfl) (.c J (.c J (.cons (Xf (by simp)) (.c J (.c J (.c J (.nil)))))))⟩
   ·refine Wz [10,1] ?_
    refine Wz [44] ?_;refine zx (Qw (b:=true) J J J J (by decide)) J ?_;refine Wz [1,20] ?_;refine zx (Qw (b:=true) J J J J (by decide)) J ?_;refine Wz [1,29,1,20,67,1,20,179,1,15,1,29,15,86,4] ?_;refine zx (Ze (b:=true) J J J J (by decide)) J ?_;refine Wz [20] ?_;refine zx (Zk (b:=true) J J J J (by decide)) J ?_;refine Wz [29,3,132,28,140,180,108,2] ?_
    refine Q8 J (fun h8 => ?_) (fun h8 => ?_)
    ·have h8:sc=true:=h8
     subst h8
     refine Wz [55,63,63,118,88] ?_
     exact Xi J J (Xt [] (by decide) J J (Xf (hbad (hcn.trans (by simp[tileM]))).symm))
    ·have h8:sc=false:=h8
     subst h8
     refine Wz [11,92,140,180,176,134,60,92,70] ?_;refine zx (Qt.grdF J J J (.hit .stop) (fun hgrd=>Qw (b:=true) J J J J (by decide))) J ?_;refine Wz [76,56] ?_
     exact⟨w-(c+1),by omega,(fun (c:Nat) (u:Seen×Bool)=>(⟨_,[(1,.o (.c (.ptr 0 0))),(3,I w),(4,B u.2),(5,.o (.c (.sb 1 4 1))),(6,I k),(7,I c)],[.box [.rd [] (sl rows)],.box [vb u.1.1,vb u.1.2.1,vb u.1.2.2.1,vb u.1.2.2.2]]⟩:St)) (c+1) (((sa,sb,true,sd),true)),⟨c+1,((sa,sb,true,sd),true),by omega,hcn.trans (by simp[tileM]),J⟩,Xw [0,1] (by decide) J (by kernel_rfl) (.c J (.c J (.cons (Xf (by simp)) (.c J (.c J (.c J (.nil)))))))⟩
   ·refine Wz [10,1] ?_
    refine Wz [44] ?_;refine zx (Qw (b:=true) J J J J (by decide)) J ?_;refine Wz [1,20] ?_;refine zx (Qw (b:=true) J J J J (by decide)) J ?_;refine Wz [1,29,1,20,67,1,20,179,1,15,1,29,15,86,4] ?_;refine zx (Ze (b:=true) J J J J (by decide)) J ?_;refine Wz [20] ?_;refine zx (Zk (b:=true) J J J J (by decide)) J ?_;refine Wz [29,3,132,28,140,180,108,2] ?_
    refine Q8 J (fun h8 => ?_) (fun h8 => ?_)
    ·have h8:sd=true:=h8
     subst h8
     refine Wz [55,63,63,118,88] ?_
     exact Xi J J (Xt [] (by decide) J J (Xf (hbad (hcn.trans (by simp[tileM]))).symm))
    ·have h8:sd=false:=h8
     subst h8
     refine Wz [11,92,140,180,176,134,60,92,70] ?_;refine zx (Qt.grdF J J J (.hit .stop) (fun hgrd=>Qw (b:=true) J J J J (by decide))) J ?_;refine Wz [76,56] ?_
     exact⟨w-(c+1),by omega,(fun (c:Nat) (u:Seen×Bool)=>(⟨_,[(1,.o (.c (.ptr 0 0))),(3,I w),(4,B u.2),(5,.o (.c (.sb 1 4 1))),(6,I k),(7,I c)],[.box [.rd [] (sl rows)],.box [vb u.1.1,vb u.1.2.1,vb u.1.2.2.1,vb u.1.2.2.2]]⟩:St)) (c+1) (((sa,sb,sc,true),true)),⟨c+1,((sa,sb,sc,true),true),by omega,hcn.trans (by simp[tileM]),J⟩,Xw [0,1] (by decide) J (by kernel_rfl) (.c J (.c J (.cons (Xf (by simp)) (.c J (.c J (.c J (.nil)))))))⟩
   ·refine Wz [10,1] ?_
    refine Wz [44,62,1,65,1,15,1,65,125,81,81,125,1,15,15,86,4] ?_;refine zx (Ze (b:=true) J J J J (by decide)) J ?_;refine Wz [20] ?_;refine z9b J (by assumption) ?_;refine Wz [29,86,124,60,92,70] ?_;refine zx (Qt.grdF J J J (.hit .stop) (fun hgrd=>Qw (b:=true) J J J J (by decide))) J ?_;refine Wz [76,56] ?_
    exact⟨w-(c+1),by omega,(fun (c:Nat) (u:Seen×Bool)=>(⟨_,[(1,.o (.c (.ptr 0 0))),(3,I w),(4,B u.2),(5,.o (.c (.sb 1 4 1))),(6,I k),(7,I c)],[.box [.rd [] (sl rows)],.box [vb u.1.1,vb u.1.2.1,vb u.1.2.2.1,vb u.1.2.2.2]]⟩:St)) (c+1) (((sa,sb,sc,sd),true)),⟨c+1,((sa,sb,sc,sd),true),by omega,hcn.trans (by simp[tileM]),J⟩,Xw [0,1] (by decide) J (by kernel_rfl) (.c J (.c J (.cons (Xf (by simp)) (.c J (.c J (.c J (.nil)))))))⟩
   ·refine Wz [10,1] ?_
    refine Wz [44] ?_;refine zx (Qw (b:=true) J J J J (by decide)) J ?_;refine Wz [1,20,62,1,29,1,65,125,81,81,125,1,15,15,86,4,157,65,15,86,124,60,92,70] ?_;refine zx (Qt.grdF J J J (.hit .stop) (fun hgrd=>Qw (b:=true) J J J J (by decide))) J ?_;refine Wz [76,56] ?_
    exact⟨w-(c+1),by omega,(fun (c:Nat) (u:Seen×Bool)=>(⟨_,[(1,.o (.c (.ptr 0 0))),(3,I w),(4,B u.2),(5,.o (.c (.sb 1 4 1))),(6,I k),(7,I c)],[.box [.rd [] (sl rows)],.box [vb u.1.1,vb u.1.2.1,vb u.1.2.2.1,vb u.1.2.2.2]]⟩:St)) (c+1) (((sa,sb,sc,sd),true)),⟨c+1,((sa,sb,sc,sd),true),by omega,hcn.trans (by simp[tileM]),J⟩,Xw [0,1] (by decide) J (by kernel_rfl) (.c J (.c J (.cons (Xf (by simp)) (.c J (.c J (.c J (.nil)))))))⟩
   ·refine Wz [10,1] ?_
    refine Wz [44,139,1,0,160,224,1,42,1,0,160] ?_;refine zx (Qt.grdT J J J (.hit .stop) (fun hgrd=>Zn J J J J)) J ?_;refine zx (Qt.grdT J J J (.hit (.hit .stop)) (fun hgrd=>Qa J J J)) J ?_;refine zx (Qt.grd2F J J J (.hit1 (.hit1 (.hit1 .stop))) (fun hgrd hgrd2=>Qa J J J)) J ?_;refine zx (Qt.grd2F J J J (.hit (.hit1 (.hit1 (.hit1 .stop)))) (fun hgrd hgrd2=>Zf J J J J)) J ?_;refine zx (Qt.grdT J J J (.part (.part (.hit (.hit (.hit .stop))))) (fun hgrd=>Zr J J J J)) J ?_;refine Wz [1,42,15,3] ?_
    refine Q8 J (fun h8 => ?_) (fun h8 => ?_)
    ·refine Wz [55,153,63,177] ?_
     refine Wz [63,88] ?_
     exact Xi J J (Xt [] (by decide) J J (Xf (hbad (hcn.trans (by simp[tileM,ht7]))).symm))
    ·simp only[Gxi,Gql,Bool.false_or,decide_eq_false_iff_not,Classical.not_not] at h8
     omega
  ·have h5:c=w:=by have:=Gqg h5; omega
   rw[h5] at hp_D
   rw[hp_D] at hrn
   refine Wz [178,168] ?_
   exact⟨rows.length-(k+1),by omega,_,⟨k+1,u,by omega,⟨hrn,fun _=>h1⟩,J⟩,Xv [0,1] (by kernel_rfl)⟩
 ·have h3:¬((k:Int)<(els rows).length):=Gqg h
  have hk:k=rows.length:=by omega
  subst hk
  refine Wz [43] ?_
  exact Xi J J (Xt [] (by decide) J J (Xf (by
   unfold levelOk
   rw[hw,hp_A.1]
   have h1:=hp_A.2 (by omega)
   have:3≤rows.length∧rows.length≤12∧4≤w∧w≤20:=by omega
   simp[this])))
end
end Go.Proofs.YtoecjaohdnoenaaGreat
